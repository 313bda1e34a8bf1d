import PyProof.Rows.All
import Wide.All
import OpenK.AllK
import Wide.FinOn
import KE.KStateDown
import Lean
import HandS.ForMost
import HandS.Exc
import HandS.TryOnly
import HandS.ExcOwn
import HandS.Codes
import HandS.NoneIn
import HandS.More
import HandS.Strs
import HandS.Conv
import HandS.Zip
import HandS.SortRule
import HandS.SortInts
import HandS.Flow
import HandS.IsInst
import HandS.Rev
import HandS.TupAny
import HandS.Wide
import HandS.Defaults
import HandS.Small
import HandS.Steps
import HandS.Replace
import HandS.StrMore
import HandS.Evl
import HandS.Head0
import HandS.Head1
import HandS.Head2
import HandS.HeadEnd
import HandS.HeadHook1
import HandS.HeadHook2
import PySem.Challenge.RW_stormpost_k85_whole_letters_through_cell
set_option Elab.async false
set_option linter.all false
set_option maxRecDepth 100000
section
set_option maxHeartbeats 8000000
/-! the text by places -/
namespace K85
open PySem PySem.Spec PyProof.Rows L2
def top (i : Nat) : Stmt := PySem.Challenge.pw_stormpost_k85_whole_letters_through_cell.main.body.getD i (.Pass ⟨0, 0, 0, 0⟩)
abbrev s_are_signs : Stmt := top 16
abbrev s_is_way : Stmt := top 17
abbrev s_made_letter : Stmt := top 18
abbrev s_letter_signs : Stmt := top 19
abbrev s_taken_from : Stmt := top 20
abbrev s_letter_of : Stmt := top 21
abbrev s_pieces_of : Stmt := top 22
abbrev s_Joiner_init : Stmt := inClass (top 23) 0
abbrev s_Joiner_take : Stmt := inClass (top 23) 1
abbrev s_look_signs : Stmt := top 30
abbrev s_sums_of : Stmt := top 31
abbrev s_sealed : Stmt := top 32
abbrev s_troubles : Stmt := top 33
abbrev s_look_sign : Stmt := top 36
abbrev s_power : Stmt := top 37
abbrev s_inverse : Stmt := top 38
abbrev s_number_signs : Stmt := top 40
abbrev s_signs_number : Stmt := top 41
abbrev s_is_house : Stmt := top 51
abbrev s_is_name : Stmt := top 52
abbrev s_look_at_near : Stmt := top 53
abbrev s_look_at_names : Stmt := top 54
abbrev s_made_news : Stmt := top 55
abbrev s_name_number : Stmt := top 56
abbrev s_name_of : Stmt := top 57
abbrev s_news_body : Stmt := top 58
abbrev s_SignRow_init : Stmt := inClass (top 59) 0
abbrev s_SignRow_number_here : Stmt := inClass (top 59) 1
abbrev s_SignRow_is_through : Stmt := inClass (top 59) 2
abbrev s_news_read : Stmt := top 60
abbrev s_news_of : Stmt := top 61
abbrev s_Map_init : Stmt := inClass (top 62) 0
abbrev s_Map_hear : Stmt := inClass (top 62) 1
abbrev s_Map_news : Stmt := inClass (top 62) 2
abbrev s_Map_told_back : Stmt := inClass (top 62) 3
abbrev s_Map_wires : Stmt := inClass (top 62) 4
abbrev s_Map_holder : Stmt := inClass (top 62) 5
abbrev s_Map_copy : Stmt := inClass (top 62) 6
abbrev s_place_of : Stmt := top 64
abbrev s_one_turned : Stmt := top 65
abbrev s_goes_on : Stmt := top 66
abbrev s_two_turned : Stmt := top 67
abbrev s_mended : Stmt := top 68
abbrev s_beside : Stmt := top 71
abbrev s_lengths_to : Stmt := top 72
abbrev s_way_of : Stmt := top 73
abbrev s_is_side : Stmt := top 74
abbrev s_way_length : Stmt := top 75
abbrev s_heights_stand : Stmt := top 76
abbrev s_way_judged : Stmt := top 77
abbrev s_law_cell : Stmt := top 79
abbrev s_law_left : Stmt := top 80
abbrev s_law_next : Stmt := top 81
abbrev s_law_turns : Stmt := top 82
abbrev s_law_turned : Stmt := top 83
abbrev s_law_unlike : Stmt := top 84
abbrev s_law_news : Stmt := top 85
abbrev s_law_letter : Stmt := top 86
abbrev s_law_sent : Stmt := top 87
abbrev s_law_come : Stmt := top 88
abbrev s_law_alike : Stmt := top 89
abbrev s_law : Stmt := top 90
def ds_are_signs : He.DefD := ⟨("are_signs", none), "are_signs", "are_signs", defArgs s_are_signs, defBody s_are_signs, defScope s_are_signs, [], []⟩
def ds_is_way : He.DefD := ⟨("is_way", none), "is_way", "is_way", defArgs s_is_way, defBody s_is_way, defScope s_is_way, [], []⟩
def ds_made_letter : He.DefD := ⟨("made_letter", none), "made_letter", "made_letter", defArgs s_made_letter, defBody s_made_letter, defScope s_made_letter, [], []⟩
def ds_letter_signs : He.DefD := ⟨("letter_signs", none), "letter_signs", "letter_signs", defArgs s_letter_signs, defBody s_letter_signs, defScope s_letter_signs, [], []⟩
def ds_taken_from : He.DefD := ⟨("taken_from", none), "taken_from", "taken_from", defArgs s_taken_from, defBody s_taken_from, defScope s_taken_from, [], []⟩
def ds_letter_of : He.DefD := ⟨("letter_of", none), "letter_of", "letter_of", defArgs s_letter_of, defBody s_letter_of, defScope s_letter_of, [], []⟩
def ds_pieces_of : He.DefD := ⟨("pieces_of", none), "pieces_of", "pieces_of", defArgs s_pieces_of, defBody s_pieces_of, defScope s_pieces_of, [], []⟩
def ds_Joiner_init : He.DefD := ⟨("Joiner", some "__init__"), "__init__", "Joiner.__init__", defArgs s_Joiner_init, defBody s_Joiner_init, defScope s_Joiner_init, [], []⟩
def ds_Joiner_take : He.DefD := ⟨("Joiner", some "take"), "take", "Joiner.take", defArgs s_Joiner_take, defBody s_Joiner_take, defScope s_Joiner_take, [], []⟩
def ds_look_signs : He.DefD := ⟨("look_signs", none), "look_signs", "look_signs", defArgs s_look_signs, defBody s_look_signs, defScope s_look_signs, [], []⟩
def ds_sums_of : He.DefD := ⟨("sums_of", none), "sums_of", "sums_of", defArgs s_sums_of, defBody s_sums_of, defScope s_sums_of, [], []⟩
def ds_sealed : He.DefD := ⟨("sealed", none), "sealed", "sealed", defArgs s_sealed, defBody s_sealed, defScope s_sealed, [], []⟩
def ds_troubles : He.DefD := ⟨("troubles", none), "troubles", "troubles", defArgs s_troubles, defBody s_troubles, defScope s_troubles, [], []⟩
def ds_look_sign : He.DefD := ⟨("look_sign", none), "look_sign", "look_sign", defArgs s_look_sign, defBody s_look_sign, defScope s_look_sign, [], []⟩
def ds_power : He.DefD := ⟨("power", none), "power", "power", defArgs s_power, defBody s_power, defScope s_power, [], []⟩
def ds_inverse : He.DefD := ⟨("inverse", none), "inverse", "inverse", defArgs s_inverse, defBody s_inverse, defScope s_inverse, [], []⟩
def ds_number_signs : He.DefD := ⟨("number_signs", none), "number_signs", "number_signs", defArgs s_number_signs, defBody s_number_signs, defScope s_number_signs, [], []⟩
def ds_signs_number : He.DefD := ⟨("signs_number", none), "signs_number", "signs_number", defArgs s_signs_number, defBody s_signs_number, defScope s_signs_number, [], []⟩
def ds_is_house : He.DefD := ⟨("is_house", none), "is_house", "is_house", defArgs s_is_house, defBody s_is_house, defScope s_is_house, [], []⟩
def ds_is_name : He.DefD := ⟨("is_name", none), "is_name", "is_name", defArgs s_is_name, defBody s_is_name, defScope s_is_name, [], []⟩
def ds_look_at_near : He.DefD := ⟨("look_at_near", none), "look_at_near", "look_at_near", defArgs s_look_at_near, defBody s_look_at_near, defScope s_look_at_near, [], []⟩
def ds_look_at_names : He.DefD := ⟨("look_at_names", none), "look_at_names", "look_at_names", defArgs s_look_at_names, defBody s_look_at_names, defScope s_look_at_names, [], []⟩
def ds_made_news : He.DefD := ⟨("made_news", none), "made_news", "made_news", defArgs s_made_news, defBody s_made_news, defScope s_made_news, [], []⟩
def ds_name_number : He.DefD := ⟨("name_number", none), "name_number", "name_number", defArgs s_name_number, defBody s_name_number, defScope s_name_number, [], []⟩
def ds_name_of : He.DefD := ⟨("name_of", none), "name_of", "name_of", defArgs s_name_of, defBody s_name_of, defScope s_name_of, [], []⟩
def ds_news_body : He.DefD := ⟨("news_body", none), "news_body", "news_body", defArgs s_news_body, defBody s_news_body, defScope s_news_body, [], []⟩
def ds_SignRow_init : He.DefD := ⟨("SignRow", some "__init__"), "__init__", "SignRow.__init__", defArgs s_SignRow_init, defBody s_SignRow_init, defScope s_SignRow_init, [], []⟩
def ds_SignRow_number_here : He.DefD := ⟨("SignRow", some "number_here"), "number_here", "SignRow.number_here", defArgs s_SignRow_number_here, defBody s_SignRow_number_here, defScope s_SignRow_number_here, [], []⟩
def ds_SignRow_is_through : He.DefD := ⟨("SignRow", some "is_through"), "is_through", "SignRow.is_through", defArgs s_SignRow_is_through, defBody s_SignRow_is_through, defScope s_SignRow_is_through, [], []⟩
def ds_news_read : He.DefD := ⟨("news_read", none), "news_read", "news_read", defArgs s_news_read, defBody s_news_read, defScope s_news_read, [], []⟩
def ds_news_of : He.DefD := ⟨("news_of", none), "news_of", "news_of", defArgs s_news_of, defBody s_news_of, defScope s_news_of, [], []⟩
def ds_Map_init : He.DefD := ⟨("Map", some "__init__"), "__init__", "Map.__init__", defArgs s_Map_init, defBody s_Map_init, defScope s_Map_init, [], []⟩
def ds_Map_hear : He.DefD := ⟨("Map", some "hear"), "hear", "Map.hear", defArgs s_Map_hear, defBody s_Map_hear, defScope s_Map_hear, [], []⟩
def ds_Map_news : He.DefD := ⟨("Map", some "news"), "news", "Map.news", defArgs s_Map_news, defBody s_Map_news, defScope s_Map_news, [], []⟩
def ds_Map_told_back : He.DefD := ⟨("Map", some "told_back"), "told_back", "Map.told_back", defArgs s_Map_told_back, defBody s_Map_told_back, defScope s_Map_told_back, [], []⟩
def ds_Map_wires : He.DefD := ⟨("Map", some "wires"), "wires", "Map.wires", defArgs s_Map_wires, defBody s_Map_wires, defScope s_Map_wires, [], []⟩
def ds_Map_holder : He.DefD := ⟨("Map", some "holder"), "holder", "Map.holder", defArgs s_Map_holder, defBody s_Map_holder, defScope s_Map_holder, [], []⟩
def ds_Map_copy : He.DefD := ⟨("Map", some "copy"), "copy", "Map.copy", defArgs s_Map_copy, defBody s_Map_copy, defScope s_Map_copy, [], []⟩
def ds_place_of : He.DefD := ⟨("place_of", none), "place_of", "place_of", defArgs s_place_of, defBody s_place_of, defScope s_place_of, [], []⟩
def ds_one_turned : He.DefD := ⟨("one_turned", none), "one_turned", "one_turned", defArgs s_one_turned, defBody s_one_turned, defScope s_one_turned, [], []⟩
def ds_goes_on : He.DefD := ⟨("goes_on", none), "goes_on", "goes_on", defArgs s_goes_on, defBody s_goes_on, defScope s_goes_on, [], []⟩
def ds_two_turned : He.DefD := ⟨("two_turned", none), "two_turned", "two_turned", defArgs s_two_turned, defBody s_two_turned, defScope s_two_turned, [], []⟩
def ds_mended : He.DefD := ⟨("mended", none), "mended", "mended", defArgs s_mended, defBody s_mended, defScope s_mended, [], []⟩
def ds_beside : He.DefD := ⟨("beside", none), "beside", "beside", defArgs s_beside, defBody s_beside, defScope s_beside, [], []⟩
def ds_lengths_to : He.DefD := ⟨("lengths_to", none), "lengths_to", "lengths_to", defArgs s_lengths_to, defBody s_lengths_to, defScope s_lengths_to, [], []⟩
def ds_way_of : He.DefD := ⟨("way_of", none), "way_of", "way_of", defArgs s_way_of, defBody s_way_of, defScope s_way_of, [], []⟩
def ds_is_side : He.DefD := ⟨("is_side", none), "is_side", "is_side", defArgs s_is_side, defBody s_is_side, defScope s_is_side, [], []⟩
def ds_way_length : He.DefD := ⟨("way_length", none), "way_length", "way_length", defArgs s_way_length, defBody s_way_length, defScope s_way_length, [], []⟩
def ds_heights_stand : He.DefD := ⟨("heights_stand", none), "heights_stand", "heights_stand", defArgs s_heights_stand, defBody s_heights_stand, defScope s_heights_stand, [], []⟩
def ds_way_judged : He.DefD := ⟨("way_judged", none), "way_judged", "way_judged", defArgs s_way_judged, defBody s_way_judged, defScope s_way_judged, [], []⟩
def ds_law_cell : He.DefD := ⟨("_law_cell", none), "_law_cell", "_law_cell", defArgs s_law_cell, defBody s_law_cell, defScope s_law_cell, [], []⟩
def ds_law_left : He.DefD := ⟨("_law_left", none), "_law_left", "_law_left", defArgs s_law_left, defBody s_law_left, defScope s_law_left, [], []⟩
def ds_law_next : He.DefD := ⟨("_law_next", none), "_law_next", "_law_next", defArgs s_law_next, defBody s_law_next, defScope s_law_next, [], []⟩
def ds_law_turns : He.DefD := ⟨("_law_turns", none), "_law_turns", "_law_turns", defArgs s_law_turns, defBody s_law_turns, defScope s_law_turns, [], []⟩
def ds_law_turned : He.DefD := ⟨("_law_turned", none), "_law_turned", "_law_turned", defArgs s_law_turned, defBody s_law_turned, defScope s_law_turned, [], []⟩
def ds_law_unlike : He.DefD := ⟨("_law_unlike", none), "_law_unlike", "_law_unlike", defArgs s_law_unlike, defBody s_law_unlike, defScope s_law_unlike, [], []⟩
def ds_law_news : He.DefD := ⟨("_law_news", none), "_law_news", "_law_news", defArgs s_law_news, defBody s_law_news, defScope s_law_news, [], []⟩
def ds_law_letter : He.DefD := ⟨("_law_letter", none), "_law_letter", "_law_letter", defArgs s_law_letter, defBody s_law_letter, defScope s_law_letter, [], []⟩
def ds_law_sent : He.DefD := ⟨("_law_sent", none), "_law_sent", "_law_sent", defArgs s_law_sent, defBody s_law_sent, defScope s_law_sent, [], []⟩
def ds_law_come : He.DefD := ⟨("_law_come", none), "_law_come", "_law_come", defArgs s_law_come, defBody s_law_come, defScope s_law_come, [], []⟩
def ds_law_alike : He.DefD := ⟨("_law_alike", none), "_law_alike", "_law_alike", defArgs s_law_alike, defBody s_law_alike, defScope s_law_alike, [], []⟩
def ds_law : He.DefD := ⟨("law", none), "law", "law", defArgs s_law, defBody s_law, defScope s_law, [], []⟩
def fn : List He.DefD := [ds_are_signs, ds_is_way, ds_made_letter, ds_letter_signs, ds_taken_from, ds_letter_of, ds_pieces_of, ds_Joiner_init, ds_Joiner_take, ds_look_signs, ds_sums_of, ds_sealed, ds_troubles, ds_look_sign, ds_power, ds_inverse, ds_number_signs, ds_signs_number, ds_is_house, ds_is_name, ds_look_at_near, ds_look_at_names, ds_made_news, ds_name_number, ds_name_of, ds_news_body, ds_SignRow_init, ds_SignRow_number_here, ds_SignRow_is_through, ds_news_read, ds_news_of, ds_Map_init, ds_Map_hear, ds_Map_news, ds_Map_told_back, ds_Map_wires, ds_Map_holder, ds_Map_copy, ds_place_of, ds_one_turned, ds_goes_on, ds_two_turned, ds_mended, ds_beside, ds_lengths_to, ds_way_of, ds_is_side, ds_way_length, ds_heights_stand, ds_way_judged, ds_law_left, ds_law_next, ds_law_turns, ds_law_turned, ds_law_unlike, ds_law_news, ds_law_letter, ds_law_sent, ds_law_come, ds_law_alike, ds_law]
def fa : List He.Fa := [.int "SIGNS" 97, .int "MOST_COUNT" 900000, .int "MOST_WAY" 6, .int "HOUSES" 32, .glo "KINDS", .int "MOST_ABOUT" 4, .int "MOST_BODY" 56, .int "IN_A_PIECE" 9, .glo "are_signs", .glo "is_way", .glo "made_letter", .glo "letter_signs", .glo "taken_from", .glo "letter_of", .glo "pieces_of", .glo "POWERS", .glo "CHECKS", .int "PLACES" 24, .int "FREE" 18, .int "SUMS" 6, .glo "look_signs", .glo "sums_of", .glo "sealed", .glo "troubles", .int "PRIME" 97, .glo "look_sign", .glo "power", .glo "inverse", .glo "number_signs", .glo "signs_number", .int "MOST_HOUSE_maps" 31, .int "MOST_NUMBER" 900000, .int "MOST_NEAR" 5, .int "MOST_QUIET" 10, .int "MOST_BIRTH" 9000, .int "MOST_NAMES" 4, .int "LONGEST_NAME" 4, .str "LETTERS" " abcdefghijklmnopqrstuvwxyz", .glo "is_house", .glo "is_name", .glo "look_at_near", .glo "look_at_names", .glo "made_news", .glo "name_number", .glo "name_of", .glo "news_body", .glo "news_read", .glo "news_of", .glo "place_of", .glo "one_turned", .glo "goes_on", .glo "two_turned", .glo "mended", .int "MOST_HOUSE_ways" 31, .glo "beside", .glo "lengths_to", .glo "way_of", .glo "is_side", .glo "way_length", .glo "heights_stand", .glo "way_judged", .glo "_law_left", .glo "_law_next", .glo "_law_turns", .glo "_law_turned", .glo "_law_unlike", .glo "_law_news", .glo "_law_letter", .glo "_law_sent", .glo "_law_come", .glo "_law_alike", .glo "law", .glo "Joiner", .cls "Joiner", .mkr "Joiner", .noat "Joiner" "so_far", .meth "Joiner" "take", .glo "SignRow", .cls "SignRow", .mkr "SignRow", .noat "SignRow" "sign_row", .noat "SignRow" "next_spot", .meth "SignRow" "number_here", .meth "SignRow" "is_through", .glo "Map", .cls "Map", .mkr "Map", .noat "Map" "kept_news", .meth "Map" "hear", .meth "Map" "news", .meth "Map" "told_back", .meth "Map" "wires", .meth "Map" "holder", .meth "Map" "copy", .free "abs", .free "all", .free "isinstance", .free "len", .free "list", .free "max", .free "min", .free "range", .free "reversed", .free "set", .free "sorted", .free "sum", .free "tuple"]
def powL : List Int := [1, 5, 25, 28, 43, 21, 8, 40, 6, 30, 53, 71, 64, 29, 48, 46, 36, 83, 27, 38, 93, 77, 94, 82, 22, 13, 65, 34, 73, 74, 79, 7, 35, 78, 2, 10, 50, 56, 86, 42, 16, 80, 12, 60, 9, 45, 31, 58, 96, 92, 72, 69, 54, 76, 89, 57, 91, 67, 44, 26, 33, 68, 49, 51, 61, 14, 70, 59, 4, 20, 3, 15, 75, 84, 32, 63, 24, 23, 18, 90, 62, 19, 95, 87, 47, 41, 11, 55, 81, 17, 85, 37, 88, 52, 66, 39]
def chkL : List (List Int) := [[59, 90, 35, 84, 52, 15], [9, 54, 34, 27, 5, 62], [76, 53, 23, 85, 82, 14], [86, 39, 46, 22, 63, 59], [16, 34, 58, 21, 54, 70], [42, 25, 96, 53, 8, 36], [41, 30, 7, 38, 38, 32], [58, 95, 14, 74, 57, 27], [55, 49, 33, 19, 87, 75], [45, 30, 60, 90, 12, 40], [24, 64, 10, 71, 41, 71], [62, 65, 77, 95, 1, 56], [53, 11, 37, 73, 7, 6], [23, 51, 8, 92, 22, 11], [26, 84, 94, 28, 47, 94], [37, 27, 37, 18, 5, 45], [27, 22, 53, 13, 72, 35], [21, 80, 53, 2, 55, 63]]
def kinL : List Str := ["news", "part", "had", "ask", "answer"]
def chkAt (K : PySem.W.Frag) (i : Nat) : Addr := match K.lookup (He.ga K "CHECKS") with
  | some ⟨_, _, .seq its _, _⟩ => (match its.toList[i]? with
    | some (.ref a) => a
    | _ => 0)
  | _ => 0
def tupAB (K : PySem.W.Frag) (a : Addr) (vs : List V) : Bool := match K.lookup a with
  | some ⟨.type c, _, .seq its _, _⟩ => decide (c = "tuple") && (decide (its.size ≤ sizeLine) && He.relAll vs its.toList)
  | _ => false
theorem tupAB_ok {K : PySem.W.Frag} {a : Addr} {vs : List V} (h : tupAB K a vs = true) (H : Hp) : SqT K H a vs := by
  unfold tupAB at h
  cases q : K.lookup a with
  | none =>
    rw [q] at h
    cases h
  | some o =>
    obtain ⟨oc, od, dt, osl⟩ := o
    rw [q] at h
    cases oc with
    | type c =>
      cases dt with
      | seq its n =>
        obtain ⟨h1, h2⟩ := He.ba (show (decide (c = "tuple") && (decide (its.size ≤ sizeLine) && He.relAll vs its.toList)) = true from h)
        obtain ⟨h3, h4⟩ := He.ba h2
        exact .inr ⟨_, its, n, q, congrArg Value.type (of_decide_eq_true h1), rfl, of_decide_eq_true h3, He.relAll_ok h4⟩
      | _ => cases h
    | _ => cases dt <;> cases h
def kinB (K : PySem.W.Frag) : Bool := match K.lookup (He.ga K "KINDS") with
  | some ⟨.type c, none, _, _⟩ => decide (c = "tuple")
  | _ => false
theorem kinB_ok {K : PySem.W.Frag} (h : kinB K = true) : ∃ o, K.lookup (He.ga K "KINDS") = some o ∧ o.cls = .type "tuple" ∧ o.dict = none := by
  unfold kinB at h
  cases q : K.lookup (He.ga K "KINDS") with
  | none =>
    rw [q] at h
    cases h
  | some o =>
    obtain ⟨oc, od, dt, osl⟩ := o
    rw [q] at h
    cases oc with
    | type c =>
      cases od with
      | none => exact ⟨_, rfl, congrArg Value.type (of_decide_eq_true h), rfl⟩
      | some a => cases h
    | _ => cases od <;> cases h
/-- the written tables -/
def tabsB (K : PySem.W.Frag) : Bool := He.lstB K "POWERS" (powL.map He.Dv.int) && (He.tupB K "KINDS" (kinL.map He.Dv.str) &&
  (He.lstB K "CHECKS" ((List.range 18).map fun i => He.Dv.adr fun K => chkAt K i) && ((List.range 18).all (fun i => tupAB K (chkAt K i) ((chkL.getD i []).map V.int)) && kinB K)))
abbrev AlX : Type := He.AlD × Bool
def obsX (K : PySem.W.Frag) : AlX := (He.obsD fa fn K, tabsB K)
def valX : AlX := (He.valD fn, true)
/-- what an object names; what a dict names -/
def refsAt (g : Addr → Option Obj) (a : Addr) : List Addr := match g a with
  | some o => He.refsO o
  | none => []
def refsD1 (g : Addr → Option Obj) (a : Addr) : List Addr := match g a with
  | some o => (match o.data with
    | .dict _ _ => He.refsO o
    | _ => [])
  | none => []
/-- the module's names, what they name, what the classes' dicts name, their methods' codes -/
def asX (g : Addr → Option Obj) : List Addr := (fun a1 => (fun a2 => (fun a3 => mainGlobals :: (a1 ++ (a2 ++ (a3 ++ a3.flatMap (refsAt g))))) (a2.flatMap (refsD1 g))) (a1.flatMap (refsAt g))) (refsAt g mainGlobals)
def obsXG (g : Addr → Option Obj) : AlX := obsX (He.frG g (asX g))
def SaysX (K : PySem.W.Frag) : Prop := obsX K = valX
def hookX : PySem.W.Hook where
  α := AlX
  obs := fun s => obsXG s.heap.get?
  val := fun _ => valX
  says := fun _ h => ∃ K : PySem.W.Frag, K.In h ∧ SaysX K
  of := fun _ _ e => ⟨_, He.frG_in, e⟩
  keeps := fun _ _ _ ⟨K, hK, c⟩ k => ⟨K, PySem.W.Frag.In.keeps hK k, c⟩
theorem obsXG_eq {g : Addr → Option Obj} {s : Shared} (h : ∀ a, g a = s.heap.get? a) : obsXG g = hookX.obs s := by
  have e : g = s.heap.get? := funext h
  rw [e] <;> rfl
theorem SaysX.d {K : PySem.W.Frag} (c : SaysX K) : He.SaysD fa fn K := congrArg (fun z : AlX => z.1) c
theorem SaysX.t {K : PySem.W.Frag} (c : SaysX K) : tabsB K = true := congrArg (fun z : AlX => z.2) c
end K85
end
section
set_option maxHeartbeats 0
noncomputable section
namespace K85H
open PySem PySem.Spec PyProof.Rows L2 K85
def names0 : List PySem.Str := ["__name__", "PostError", "BadSign", "BadCell", "BadPiece", "BadLetter", "BadNews", "SIGNS", "MOST_COUNT", "MOST_WAY", "HOUSES", "KINDS", "MOST_ABOUT", "MOST_BODY", "IN_A_PIECE", "are_signs", "is_way", "made_letter", "letter_signs", "taken_from", "letter_of", "pieces_of", "Joiner", "POWERS", "CHECKS", "PLACES", "FREE", "SUMS", "look_signs", "sums_of"]
def names1 : List PySem.Str := ["sealed", "troubles", "PRIME", "look_sign", "power", "inverse", "number_signs", "signs_number", "MOST_HOUSE_maps", "MOST_NUMBER", "MOST_NEAR", "MOST_QUIET", "MOST_BIRTH", "MOST_NAMES", "LONGEST_NAME", "LETTERS", "is_house", "is_name", "look_at_near", "look_at_names", "made_news", "name_number", "name_of", "news_body", "SignRow", "news_read", "news_of", "Map", "place_of", "one_turned"]
def names2 : List PySem.Str := ["goes_on", "two_turned", "mended", "MOST_HOUSE_ways", "beside", "lengths_to", "way_of", "is_side", "way_length", "heights_stand", "way_judged", "_law_cell", "_law_left", "_law_next", "_law_turns", "_law_turned", "_law_unlike", "_law_news", "_law_letter", "_law_sent", "_law_come", "_law_alike"]
def names : List PySem.Str := names0 ++ names1 ++ names2
abbrev R : PySem.W.OpenRow := PySem.W.OpenLaw.row PySem.Challenge.rw_stormpost_k85_whole_letters_through_cell
abbrev qv : Program := PySem.W.view R.prog [90]
def ob (s : PySem.W.SharedT) : AlX := obsXG (HandSHeadRun.getT s)
theorem ob_eq (s : PySem.W.SharedT) : ob s = hookX.obs s.abs := obsXG_eq (HandSHeadRun.getT_eq s)
theorem run (w : World) : HandSHeadRun.RunEq R qv hookX ob 30000 names w := by
  intro os
  kernel_rfl
end K85H
end
end
section
set_option maxHeartbeats 4000000
namespace K85
open PySem PySem.Spec PyProof.Rows
/-! a set made of a list or a tuple of keys of one kind, no two alike -/
theorem take_in {κ : Type} [DecidableEq κ] {ks : List κ} {i : Nat} {k : κ} (h : ks[i]? = some k) (j : κ) : (decide (j ∈ ks.take i) || decide (j = k)) = decide (j ∈ ks.take (i + 1)) := by
  rw [List.take_add_one, h, Bool.eq_iff_iff]
  simp
theorem take_nin {κ : Type} {ks : List κ} (nd : ks.Nodup) {i : Nat} {k : κ} (h : ks[i]? = some k) : k ∉ ks.take i := fun m => by
  obtain ⟨j, hj, e⟩ := List.mem_iff_getElem.mp m
  rw [List.length_take] at hj
  rw [List.getElem_take] at e
  obtain ⟨hi, e2⟩ := List.getElem?_eq_some_iff.mp h
  exact (List.pairwise_iff_getElem.mp nd) j i (by omega) hi (by omega) (e.trans e2.symm)
section
variable {prog : Program} {w : World} {A : Around} {R : Result → Shared → Prop} {I : Addr} {fp wr : List Addr} {G : Array GenState → Array GenState → Prop} {n : Nat} {P : Nat → Value → Prop} {St : Nat → Shared → Prop}
theorem setLoop {κ : Type} [DecidableEq κ] (knd : KeyKind prog w κ) (ks : List κ) (nd : ks.Nodup) (W : WalksS prog w A.in1 I fp wr G n P St) (S : Addr) (hSf : S ∉ fp) (hn : ks.length = n) (hb : n + 1 < scanBound)
    (hval : ∀ i v, P i v → ∃ k, ks[i]? = some k ∧ knd.is k v = true ∧ v.scannable = true) :
    ∀ (m i : Nat) (s : Shared), n - i = m → i ≤ n → St i s → s.heap.SetOf knd S (fun j => decide (j ∈ ks.take i)) i →
      (∀ s', Moved (S :: wr) G s s' → s'.heap.SetOf knd S (fun j => decide (j ∈ ks)) n → R (.ok (.ret .none)) s') →
      codeAny (model prog w) A (.builtin "set.update.loop" ⟨[.ref S, .ref I], []⟩) R s := by
  have out : S ∉ wr := fun h => hSf (W.sub _ h)
  have sub : ∀ b ∈ wr, b ∈ S :: wr := fun b hb => .tail _ hb
  have carry : ∀ {s s' : Shared} {q : κ → Bool} {c : Nat}, Moved wr G s s' → s.heap.SetOf knd S q c → s'.heap.SetOf knd S q c := fun hm h => by
    obtain ⟨o, es, ep, t, ho, r⟩ := h
    exact ⟨o, es, ep, t, hm.heap S _ out ho, r⟩
  intro m
  induction m with
  | zero =>
    intro i s e hi st hS k
    obtain rfl : i = n := by omega
    refine codeAny_builtin PyProof.Rows.F.entry_set_update_loop ?_
    rw [Around.under_plainId PyProof.Rows.F.plain_set_update_loop _]
    show wpAny _ _ (pyNext (.ref I) >>= _) _ _ s
    refine wpAny_bind (W.done s _ _ st fun s' hm => ?_)
    show wpAny _ _ (ret _) _ _ s'
    have h2 := carry hm hS
    rw [← hn, List.take_length] at h2
    exact wpAny_pure (k s' (hm.mono sub) (hn ▸ h2))
  | succ m ih =>
    intro i s e hi st hS k
    refine codeAny_builtin PyProof.Rows.F.entry_set_update_loop ?_
    rw [Around.under_plainId PyProof.Rows.F.plain_set_update_loop _]
    show wpAny _ _ (pyNext (.ref I) >>= _) _ _ s
    refine wpAny_bind (W.item i s _ _ (by omega) st fun v s1 hP st1 hm => ?_)
    obtain ⟨key, hk, hv, hs⟩ := hval i v hP
    have h1 := carry hm hS
    show wpAny _ _ (holding [v] (setAdd S v) >>= _) _ _ s1
    refine wpAny_bind (wpAny_holding ?_)
    unfold setAdd
    refine wpAny_holding (wpAny_bind (knd.pyHash hv ?_))
    refine wpAny_setAddHashed_of (s := { s1 with toks := s1.toks + 1 }) hv hs h1 (by omega) fun h' sb h2 => ?_
    have h3 : h'.SetOf knd S (fun j => decide (j ∈ ks.take (i + 1))) (i + 1) := by
      rw [if_neg (by rw [decide_eq_false (take_nin nd hk)]; decide), funext (take_in hk)] at h2
      exact h2
    have keep : ∀ b o, b ≠ S → s1.heap.get? b = some o → h'.get? b = some o := fun b o hb e => (sb.2 b hb).trans e
    refine wpAny_pure ⟨plainId_quiet PyProof.Rows.F.plain_set_update_loop _, ih (i + 1) _ (by omega) (by omega) (W.frame _ s1 _ _ st1 (Nat.le_succ _) fun b hb o e => keep b o (fun z => hSf (z ▸ hb)) e) h3 fun s2 hm2 h4 => k s2 (Moved.trans W.gtrans ((hm.mono sub).then_heap (Nat.le_succ _) fun b o hb e => keep b o (fun z => hb (by rw [z]; exact List.mem_cons_self)) e) hm2) h4⟩
end
section
variable {prog : Program} {w : World} {A : Around} {E : Value → Shared → Prop} {s : Shared}
theorem setOf_seq {κ : Type} [DecidableEq κ] (knd : KeyKind prog w κ) (ks : List κ) (nd : ks.Nodup) {l : Addr} {items : Array Value} {T : String} {dd : Option Addr} {nl : Nat} {sl : Array (Option Value)} {Q : Value → Shared → Prop}
    (hh : A.handled = none) (hT : T = "list" ∨ T = "tuple") (hol : s.heap.get? l = some { cls := .type T, dict := dd, data := .seq items nl, slots := sl }) (hn : ks.length = items.size) (hb : items.size + 1 < scanBound)
    (hval : ∀ (i : Nat) (v : Value), items[i]? = some v → ∃ k, ks[i]? = some k ∧ knd.is k v = true ∧ v.scannable = true)
    (h : ∀ (h' : Heap) (tk : Nat), h'.SetOf knd s.heap.objs.size (fun j => decide (j ∈ ks)) items.size → (∀ b o, s.heap.get? b = some o → h'.get? b = some o) → Q (.ref s.heap.objs.size) { s with heap := h', toks := tk }) :
    wpAny (model prog w) A (call (.type "set") [.ref l]) Q E s := by
  have hsls : isSubtype (.type T) (.type "set") = pure false := by
    rcases hT with rfl | rfl
    · exact PySem.F.sub_list_set
    · exact PySem.F.sub_tuple_set
  have hslf : isSubtype (.type T) (.type "frozenset") = pure false := by
    rcases hT with rfl | rfl
    · exact PySem.F.sub_list_frozenset
    · exact PySem.F.sub_tuple_frozenset
  have hne : (Value.type T == Value.type "dict") = false := by rcases hT with rfl | rfl <;> decide
  obtain ⟨⟨c, tl, hmro⟩, hmade, hsub, h1, h2, hct⟩ := And.intro PySem.F.called_set.mro (And.intro PySem.F.called_set.made (And.intro PySem.F.called_set.sub (And.intro PySem.F.called_set.notType (And.intro PySem.F.called_set.canCreate (PySem.F.typeCall_set_1 (.ref l))))))
  refine wpAny_call (codeAny_of_tree (show wpAny _ _ (callAny (.type "set") _) _ _ _ from wpAny_pure ⟨Code.quiet_builtin _ (by decide +kernel), codeAny_builtin PySem.F.entry_type_call ?_⟩))
  rw [Around.under_plain (weight_type_call_type "set" [.ref l] []) rfl]
  repeat' first | assumption | wp_step
  refine codeAny_mono (code_set_new_1 (.ref l) (E := E) (Q₁ := fun obj s1 => ∃ led : Bool, obj = .ref s.heap.objs.size ∧ s1 = { s with heap := s.heap.push { cls := .type "set", dict := none, data := .set #[] 0 (.fresh 0 0 led) } }) fun led => ⟨led, rfl, rfl⟩) fun r s1 hr => ?_
  cases r with
  | error e => exact hr
  | ok fl =>
    cases fl with
    | ret obj =>
      obtain ⟨led, rfl, rfl⟩ := hr
      generalize hso : ({ cls := .type "set", dict := none, data := .set #[] 0 (.fresh 0 0 led) } : Obj) = so
      have hS : (s.heap.push so).get? s.heap.objs.size = some so := Heap.get?_push_size _ (by rw [← hso]; rfl)
      have hTy : Shared.TypeIs { s with heap := s.heap.push so } (.ref s.heap.objs.size) "set" := ⟨_, hS, by rw [← hso]⟩
      obtain ⟨hli, hbi⟩ := And.intro PySem.F.called_set.init.lookup (PySem.F.called_set.init.bind (.ref s.heap.objs.size))
      repeat' first | assumption | wp_step
      refine codeAny_mono (codeAny_call_builtin (R := wants (fun r s2 => r = .none ∧ ∃ h' tk, s2 = { s with heap := h', toks := tk } ∧ h'.SetOf knd s.heap.objs.size (fun j => decide (j ∈ ks)) items.size ∧ (∀ b o, s.heap.get? b = some o → h'.get? b = some o)) E) PySem.F.called_set.init.plain PySem.F.entry_set_init (check_set_init_1 hTy ?_)) fun r2 s2 hr2 => ?_
      · have hol' : (s.heap.push so).get? l = some { cls := .type T, dict := dd, data := .seq items nl, slots := sl } := Heap.get?_push_of_some _ hol
        have hlS : l < s.heap.objs.size := Heap.lt_size hol
        have hh3 : A.in1.in1.in1.handled = none := by simp [hh]
        have zs : (s.heap.push so).objs.size = s.heap.objs.size + 1 := Heap.size_push ..
        have hneI : l ≠ (s.heap.push so).objs.size := by
          rw [zs]
          exact Nat.ne_of_lt (Nat.lt_succ_of_lt hlS)
        have hSf : s.heap.objs.size ∉ [(s.heap.push so).objs.size, l] := by
          rw [zs]
          intro z
          rcases List.mem_cons.mp z with z | z
          · exact Nat.ne_of_lt (Nat.lt_succ_self _) z
          · exact Nat.ne_of_gt hlS (List.mem_singleton.mp z)
        have fin : ∀ {St : Nat → Shared → Prop} {io : Obj} {R : Result → Shared → Prop}, WalksS prog w A.in1.in1.in1 (s.heap.push so).objs.size [(s.heap.push so).objs.size, l] [(s.heap.push so).objs.size] (fun a b => b = a) items.size (fun i v => items[i]? = some v) St →
            St 0 { s with heap := (s.heap.push so).push io } → (∀ h' tk, h'.SetOf knd s.heap.objs.size (fun j => decide (j ∈ ks)) items.size → (∀ b o, s.heap.get? b = some o → h'.get? b = some o) → R (.ok (.ret .none)) { s with heap := h', toks := tk }) →
            codeAny (model prog w) A.in1.in1 (.builtin "set.update.loop" ⟨[.ref s.heap.objs.size, .ref (s.heap.push so).objs.size], []⟩) R { s with heap := (s.heap.push so).push io } := fun {St io R} W st0 k => by
          refine setLoop knd ks nd W s.heap.objs.size hSf hn hb hval (items.size - 0) 0 _ rfl (Nat.zero_le _) st0 ?_ fun s3 hm h3 => ?_
          · have g : ((s.heap.push so).push io).get? s.heap.objs.size = some { cls := .type "set", dict := none, data := .set #[] 0 (.fresh 0 0 led) } := by
              rw [hso]
              exact Heap.get?_push_of_some _ hS
            have q := (PyProof.Rows.setObjOf_fresh (knd := knd) led).setOf g (by unfold scanBound; omega)
            exact PyProof.Rows.SetOf_congr q (fun _ => by simp) rfl
          · have e3 : s3 = { s with heap := s3.heap, toks := s3.toks } := by
              obtain ⟨hp3, g3, d3, tk3, os3⟩ := s3
              have eg : g3 = s.gens := hm.gens
              have ed : d3 = s.drawn := hm.drawn
              have eo : os3 = s.os := hm.os
              rw [eg, ed, eo]
            rw [e3]
            refine k s3.heap s3.toks h3 fun b o e => ?_
            have b0 := Heap.lt_size e
            refine hm.heap b o ?_ (Heap.get?_push_of_some _ (Heap.get?_push_of_some _ e))
            rw [zs]
            intro z
            rcases List.mem_cons.mp z with z | z
            · exact Nat.ne_of_lt b0 z
            · exact Nat.ne_of_lt (Nat.lt_succ_of_lt b0) (List.mem_singleton.mp z)
        subst hso
        unfold Builtin.«set.__init__» Builtin.Frozenset.updateFrom noKeywords
        generalize it0 : pyIter = walkOver
        wp_walk
        subst it0
        rcases hT with rfl | rfl
        · refine wpAny_pyIter_list ⟨_, hol', rfl, nl, rfl⟩ ?_
          refine wpAny_bind (wpAny_runValue ?_)
          refine fin ((Walks.list (prog := prog) (w := w) hh3 _ l hneI items).toS) ⟨⟨_, Heap.get?_push_size _ rfl, rfl, rfl⟩, (Heap.IsList.push ⟨_, hol', rfl, nl, rfl⟩ _)⟩ fun h' tk h3 k3 => ?_
          refine wpAny_pure ?_
          exact wpAny_pure ⟨rfl, h', tk, rfl, h3, k3⟩
        · refine wpAny_pyIter_tuple ⟨_, hol', rfl, nl, rfl⟩ ?_
          refine wpAny_bind (wpAny_runValue ?_)
          refine fin ((Walks.tuple (prog := prog) (w := w) hh3 _ l hneI items).toS) ⟨⟨_, Heap.get?_push_size _ rfl, rfl, rfl⟩, (Heap.IsTuple.push ⟨_, hol', rfl, nl, rfl⟩ _)⟩ fun h' tk h3 k3 => ?_
          refine wpAny_pure ?_
          exact wpAny_pure ⟨rfl, h', tk, rfl, h3, k3⟩
      · cases r2 with
        | error e => exact hr2
        | ok fl2 =>
          cases fl2 with
          | ret r =>
            obtain ⟨rfl, h', tk, rfl, hS', hk'⟩ := hr2
            repeat' first | exact h _ _ hS' hk' | assumption | wp_step
          | _ => exact hr2.elim
    | _ => exact hr.elim
end
end K85
end
section
set_option maxHeartbeats 4000000
namespace K85
open PySem PySem.Spec PyProof.Rows L2
/-! list(reversed(xs)): a list's own items, the last one first -/
/-- what stands as the new list S is filled from the iterator it over l -/
structure RevAt (h : Heap) (it l S : Addr) (items : Array Value) (c : Nat) : Prop where
  iter : h.IsRevIter it l ((items.size : Int) - 1)
  from_ : h.IsList l items
  li : l ≠ it
  si : S ≠ it
  sl : S ≠ l
  new : h.get? S = some { cls := .type "list", data := .seq #[] c }
  fits : items.size ≤ sizeLine
abbrev BackOf (items : Array Value) : Nat → Value → Prop := fun i v => items[items.size - 1 - i]? = some v
abbrev noItems : Obj → Obj := Obj.mapSeq fun _ => (#[] : Array Value)
theorem RevAt.cleared {h : Heap} {it l S : Addr} {items : Array Value} {c : Nat} (r : RevAt h it l S items c) : (∃ c', RevAt (h.update S noItems) it l S items c') ∧ ∀ b o, b ≠ S → h.get? b = some o → (h.update S noItems).get? b = some o := by
  have k : ∀ b o, b ≠ S → h.get? b = some o → (h.update S noItems).get? b = some o := fun b o n e => (Heap.get?_update_other _ _ n.symm).trans e
  obtain ⟨o, ho, h2⟩ := r.from_
  exact ⟨⟨_, r.iter.at fun o e => k it o r.si.symm e, ⟨o, k l o r.sl.symm ho, h2⟩, r.li, r.si, r.sl, Heap.get?_update_self noItems r.new rfl, r.fits⟩, k⟩
section
variable {prog : Program} {w : World} {A : Around} {E : Value → Shared → Prop} {s : Shared} {it l S : Addr} {items : Array Value} {c : Nat} {R : Result → Shared → Prop}
/-- the loop that fills it -/
theorem rev_fill (hh : A.handled = none) (r : RevAt s.heap it l S items c)
    (k : ∀ h' tk acc' c', (∀ b o, b ≠ S → b ≠ it → s.heap.get? b = some o → h'.get? b = some o) → h'.get? S = some { cls := .type "list", dict := none, data := .seq acc' c', slots := #[] } → ItemsOf (BackOf items) acc' items.size → R (.ok (.ret .none)) { s with heap := h', toks := tk }) :
    codeAny (model prog w) A (.builtin "list.extend.loop" ⟨[.ref S, .ref it, .none], []⟩) R s := by
  have fp : S ∉ [it, l] := fun z => (List.mem_cons.mp z).elim r.si fun z => r.sl (List.mem_singleton.mp z)
  refine codeAny_extend_loopS (Walks.listRev (prog := prog) (w := w) (A := A.in1) hh it l r.li items).toS r.fits _ fp _ items.size 0 _ _ _ rfl (Nat.zero_le _) ⟨Nat.zero_le _, ?_, r.from_⟩ r.new (ItemsOf.nil _) fun s' acc' c' hm hS' hacc => ?_
  · exact (show ((items.size : Nat) : Int) - 1 = (items.size : Int) - 1 - ((0 : Nat) : Int) by omega) ▸ r.iter
  · rw [Moved.eq_with hm]
    exact k s'.heap s'.toks acc' c' (fun b o n1 n2 e => hm.heap b o (fun z => (List.mem_cons.mp z).elim n1 fun z => n2 (List.mem_singleton.mp z)) e) hS' hacc
/-- list.__init__ of such an iterator -/
theorem rev_init (hh : A.handled = none) (r : RevAt s.heap it l S items 0)
    (k : ∀ h' tk acc' c', (∀ b o, b ≠ S → b ≠ it → s.heap.get? b = some o → h'.get? b = some o) → h'.get? S = some { cls := .type "list", dict := none, data := .seq acc' c', slots := #[] } → ItemsOf (BackOf items) acc' items.size → R (.ok (.ret .none)) { s with heap := h', toks := tk }) :
    wpAny (model prog w) A.in1 (Builtin.«list.__init__» ⟨[.ref S, .ref it], []⟩) (fun f s' => match f with | .done f => R (.ok f) s' | .again d => d.quiet = true ∧ codeAny (model prog w) A d R s') (fun e s' => R (.error e) s') s := by
  obtain ⟨⟨c', r'⟩, kp⟩ := r.cleared
  have ty : ({ s with heap := s.heap.update S noItems } : Shared).TypeIs (.ref it) "list_reverseiterator" := Heap.IsRevIter.typeIs (s := { s with heap := s.heap.update S noItems }) r'.iter
  have same : Builtin.List.listSameRef (.ref S) (.ref it) = false := by simp [Builtin.List.listSameRef, r.si]
  show wpAny _ _ (Builtin.List.listItems (.ref S) >>= fun old => Builtin.List.listUpdate (.ref S) (fun _ => #[]) >>= fun _ => letGo old.toList.reverse >>= fun _ => Builtin.List.listExtendWith (.ref S) (.ref it) .none) _ _ s
  have first : ∀ Q : Array Value → Shared → Prop, Q #[] s → wpAny (model prog w) A.in1 (Builtin.List.listItems (.ref S)) Q (fun e s' => R (.error e) s') s := fun Q q => by
    unfold Builtin.List.listItems
    exact wpAny_bind (wpAny_seqItems r.new rfl (wpAny_pure q))
  refine wpAny_bind (first _ (wpAny_bind ?_))
  show wpAny _ _ (updateSeq S fun _ => #[]) _ _ s
  refine wpAny_updateSeq r.new rfl (wpAny_bind (wpAny_letGo ?_))
  unfold Builtin.List.listExtendWith Builtin.List.listLengthHint
  refine wpAny_bind (wpAny_typeOf ty ?_)
  rw [same, if_neg (by decide)]
  refine wpAny_bind (wpAny_pyIter_revIter (s := { s with heap := s.heap.update S noItems }) r'.iter (wpAny_bind (wpAny_holding (wpAny_bind (wpAny_specialOf ty RT.nolen_lri ?_)))))
  show wpAny _ _ (specialOf (.ref it) (Str.ofString "__length_hint__") >>= _) _ _ _
  refine wpAny_bind (wpAny_specialOf ty RT.hint_lri ?_)
  generalize hid : ("list_reverseiterator.__length_hint__" : String) = nm
  wp_delta
  rw [show splitId nm = some ("list_reverseiterator", "__length_hint__") by rw [← hid]; decide +kernel, ← hid]
  refine wpAny_bind (wpAny_isInstance (b := true) ty (by rw [isSubtype_type]; kernel_rfl) (wpAny_pure ?_))
  rw [if_neg (by decide)]
  refine wpAny_pure ⟨plainId_quiet F.plain_extend_loop _, rev_fill (s := { s with heap := s.heap.update S noItems }) hh r' fun h' tk acc' d hk => k h' tk acc' d fun b o n1 n2 e => hk b o n1 n2 (kp b o n1 e)⟩
theorem rev_call {Q : Value → Shared → Prop} (hh : A.handled = none) (hi : s.heap.IsRevIter it l ((items.size : Int) - 1)) (hl : s.heap.IsList l items) (ne : l ≠ it) (hz : items.size ≤ sizeLine)
    (k : ∀ h' tk acc' c', (∀ b o, b ≠ it → s.heap.get? b = some o → h'.get? b = some o) → h'.get? s.heap.objs.size = some { cls := .type "list", dict := none, data := .seq acc' c', slots := #[] } → ItemsOf (BackOf items) acc' items.size → Q (.ref s.heap.objs.size) { s with heap := h', toks := tk }) :
    wpAny (model prog w) A (call (.type "list") [.ref it]) Q E s := by
  refine callType_codes (Q₁ := fun v s2 => v = .ref s.heap.objs.size ∧ s2 = { s with heap := s.heap.push (seqObj "list" #[] 0) }) PySem.F.called_list (PySem.F.typeCall_list_1 _) PySem.F.entry_list_init (code_list_new _ ⟨rfl, rfl⟩) fun v s2 ⟨e1, e2⟩ => ?_
  subst e1 e2
  have hi2 := hi
  have hl2 := hl
  obtain ⟨oi, hoi, _⟩ := hi2
  obtain ⟨ol, hol, _⟩ := hl2
  have r : RevAt (s.heap.push (seqObj "list" #[] 0)) it l s.heap.objs.size items 0 := ⟨hi.at fun o e => Heap.get?_push_of_some _ e, hl.push _, ne, Nat.ne_of_gt (Heap.lt_size hoi), Nat.ne_of_gt (Heap.lt_size hol), Heap.get?_push_size _ rfl, hz⟩
  exact ⟨⟨_, r.new, rfl⟩, PySem.F.args_list_init_2 _ _, rev_init (s := { s with heap := s.heap.push (seqObj "list" #[] 0) }) hh r fun h' tk acc' c' hk hS hi => ⟨rfl, k h' tk acc' c' (fun b o n e => hk b o (Nat.ne_of_lt (Heap.lt_size e)) n (Heap.get?_push_of_some _ e)) hS hi⟩⟩
end
def tListRev (K : PySem.W.Frag) (te : TE) : TE := fun σ H Q => te σ H fun v H1 => ∃ (a : Addr) (xs : List V), v = .ref a ∧ SqL K H1 a xs ∧ ∀ q, H1 q = none → Q (.ref q) (upd H1 q (.lst xs.reverse))
theorem pe_listRev {X : Cx} {e : Expr} {te : TE} {p p2 pos pos2 : Pos} (hc : X.calm = true) (hg : Gl X "list") (hm : X.mg "list" = none) (hg2 : Gl X "reversed") (hm2 : X.mg "reversed" = none) (he : PE X e te)
    (n1 : starEach [e] X.env = (false, eval e X.env) :: starEach [] X.env := by rfl) (n2 : starEach [.Call (.Name "reversed" p2) [e] [] pos2] X.env = (false, eval (.Call (.Name "reversed" p2) [e] [] pos2) X.env) :: starEach [] X.env := by rfl) :
    PE X (.Call (.Name "list" p) [.Call (.Name "reversed" p2) [e] [] pos2] [] pos) (tListRev X.K te) := ⟨fun pins s σ H Q I h => by
  refine Call_ (ld_blt I hg hm boot_list (PyProof.Rows.callWith_type1 (PyProof.Rows.args_cons (Call_ (ld_blt I hg2 hm2 PyProof.Rows.boot_reversed (PyProof.Rows.callWith_type1 (PyProof.Rows.args_cons (thn (he.run pins s σ H _ I h) fun u s1 ⟨v, H1, I1, r1, a, xs, ev, hs, q⟩ => PyProof.Rows.args_nil ?_) n1) n1 rfl))) n2) n2 rfl))
  subst ev
  obtain rfl : u = Value.ref a := r1
  obtain ⟨its, rv, at_, hz⟩ := I1.list hs
  obtain ⟨ol, hol, hl2⟩ := at_.isList
  refine call_reversed_list ⟨ol, hol, hl2⟩ (PyProof.Rows.args_nil ?_)
  have old : ∀ b o, s1.heap.get? b = some o → (s1.heap.push (revObj a ((its.toArray.size : Int) - 1))).get? b = some o := fun b o => Heap.get?_push_of_some _
  refine rev_call (s := { s1 with heap := s1.heap.push (revObj a ((its.toArray.size : Int) - 1)) }) (I1.ok.hd hc) ⟨_, Heap.get?_push_size _ rfl, rfl, rfl⟩ ⟨ol, old _ _ hol, hl2⟩ (Nat.ne_of_lt (Heap.lt_size hol)) (by rw [List.size_toArray, ← rv.length]; exact hz) fun h' tk acc c' hk hS hi => ?_
  have far : s1.heap.objs.size ≤ (s1.heap.push (revObj a ((its.toArray.size : Int) - 1))).objs.size := by
    rw [Heap.size_push]
    exact Nat.le_succ _
  exact ⟨.ref _, upd H1 _ (.lst xs.reverse), I1.laid (t' := tk) (fun b o e => hk b o (Nat.ne_of_lt (Heap.lt_size e)) (old b o e)) far ⟨by rw [List.length_reverse]; exact hz, acc.toList, c', RT.vals_rev rv hi, by rw [Array.toArray_toList]; exact hS⟩, rfl, q _ (I1.hok.fresh far)⟩⟩
end K85
namespace K85
open PySem PySem.Spec PyProof.Rows
open L2 hiding CX0 E0 pass0
open C8
def tLenSetA (K : PySem.W.Frag) (ta : TE) : TE := fun σ H Q => ta σ H fun x H1 => ∃ (l : Addr), x = .ref l ∧
  ((∃ ns : List Int, (SqL K H1 l (ns.map V.int) ∨ SqT K H1 l (ns.map V.int)) ∧ ns.Nodup ∧ ns.length ≤ 4000 ∧ Q (.int (ns.length : Nat)) H1) ∨
   (∃ ss : List Str, SqL K H1 l (ss.map V.str) ∧ ss.Nodup ∧ ss.length ≤ 4000 ∧ Q (.int (ss.length : Nat)) H1))
theorem pe_lenSetA {X : Cx} {a : Expr} {ta : TE} {p p2 q pos : Pos} (hg : Gl X "len") (hm : X.mg "len" = none) (hg2 : Gl X "set") (hm2 : X.mg "set" = none) (ha : PE X a ta) (hc : X.calm = true := by rfl)
    (na : starEach [a] X.env = (false, eval a X.env) :: starEach [] X.env := by rfl) : PE X (.Call (.Name "len" p) [.Call (.Name "set" p2) [a] [] q] [] pos) (tLenSetA X.K ta) := by
  refine ⟨fun pins s σ H Q I h => ?_⟩
  refine Call_ (ld_blt I hg hm boot_len (PyProof.Rows.callWith_builtin1 (PyProof.Rows.args_cons (Call_ (ld_blt I hg2 hm2 boot_set (PyProof.Rows.callWith_type1 (PyProof.Rows.args_cons (thn (ha.run pins s σ H _ I h) fun v s1 ⟨x, H1, I1, r1, q1⟩ => PyProof.Rows.args_nil ?_) na) na rfl))) rfl) rfl rfl))
  obtain ⟨l, ex, q1⟩ := q1
  subst ex
  obtain rfl : v = Value.ref l := r1
  have fin : ∀ {κ : Type} [DecidableEq κ] (knd : KeyKind X.prog X.w κ) (ks : List κ) (its : List Value) (T : String) (dd : Option Addr) (nl : Nat) (sl : Array (Option Value)), (T = "list" ∨ T = "tuple") → ks.Nodup → ks.length ≤ 4000 → its.length = ks.length → Q (.int (ks.length : Nat)) H1 →
      s1.heap.get? l = some { cls := .type T, dict := dd, data := .seq its.toArray nl, slots := sl } → (∀ (i : Nat) (v : Value), its[i]? = some v → ∃ k, ks[i]? = some k ∧ knd.is k v = true ∧ v.scannable = true) →
      wpAny (model X.prog X.w) X.A (call (.type "set") [.ref l]) (fun v s2 => wpAny (model X.prog X.w) X.A (spliced (backTo pos (starEach [] X.env))) (fun vs s3 => wpAny (model X.prog X.w) X.A (call (.builtin "len") (v :: vs)) (EP X pins σ Q) X.xe s3) X.xe s2) X.xe s1 := fun {κ} _ knd ks its T dd nl sl hT nd hl hn qq ho hval => by
    have hz : its.toArray.size = ks.length := by rw [List.size_toArray, hn]
    refine setOf_seq knd ks nd (I1.ok.hd hc) hT ho hz.symm (by rw [hz]; unfold scanBound; omega) (fun i v hv => hval i v (by simpa using hv)) fun h' tk hS hk => PyProof.Rows.args_nil ?_
    rw [hz] at hS
    obtain ⟨o, es, ep, t, ho2, hex, hd, _, _, _, hf, hn2⟩ := hS
    have I2 : Inv X pins σ H1 { s1 with heap := h', toks := tk } := I1.kept hk
    exact call_len_set ho2 hex hd hf (by rw [hn2]; omega) ⟨.int (ks.length : Nat), H1, I2.tok _, ⟨_, by rw [hn2]⟩, qq⟩
  rcases q1 with ⟨ns, hq, nd, hl, qq⟩ | ⟨ss, hq, nd, hl, qq⟩
  · have hv : ∀ {its : List Value}, Vals (ns.map V.int) its → ∀ (i : Nat) (v : Value), its[i]? = some v → ∃ k, ns[i]? = some k ∧ (intKind X.prog X.w).is k v = true ∧ v.scannable = true := fun {its} r i v e => by
      obtain ⟨t, rfl⟩ := IntsAre.int_at (RZ.intsAre_vals r) i v e
      have hi : i < ns.length := by
        have := (List.getElem?_eq_some_iff.mp e).1
        rw [← r.length, List.length_map] at this
        exact this
      rw [List.getD_eq_getElem?_getD, List.getElem?_eq_getElem hi]
      exact ⟨_, rfl, intKind_is _ _ _ _, rfl⟩
    rcases hq with hq | hq
    · obtain ⟨its, r, pl, hz⟩ := I1.list hq
      obtain ⟨⟨cls, dd, dt, sl⟩, ho, hc, n, hd⟩ := pl.isList
      simp only at hc hd
      subst hc hd
      exact fin (intKind X.prog X.w) ns its "list" dd n sl (.inl rfl) nd hl (by rw [← r.length, List.length_map]) qq ho (hv r)
    · obtain ⟨its, r, pl, hz⟩ := I1.tuple hq
      obtain ⟨⟨cls, dd, dt, sl⟩, ho, hc, n, hd⟩ := pl
      simp only at hc hd
      subst hc hd
      exact fin (intKind X.prog X.w) ns its "tuple" dd n sl (.inr rfl) nd hl (by rw [← r.length, List.length_map]) qq ho (hv r)
  · obtain ⟨its, r, pl, hz⟩ := I1.list hq
    obtain ⟨⟨cls, dd, dt, sl⟩, ho, hc, n, hd⟩ := pl.isList
    simp only at hc hd
    subst hc hd
    refine fin (strKind X.prog X.w) ss its "list" dd n sl (.inl rfl) nd hl (by rw [← r.length, List.length_map]) qq ho fun i v e => ?_
    obtain ⟨t, rfl⟩ := SS.strs_at (strsAre_of r) i v e
    have hi : i < ss.length := by
      have := (List.getElem?_eq_some_iff.mp e).1
      rw [← r.length, List.length_map] at this
      exact this
    rw [List.getD_eq_getElem?_getD, List.getElem?_eq_getElem hi]
    exact ⟨_, rfl, strKind_is _ _ _ _, rfl⟩
end K85
namespace K85
open PySem PySem.Spec PyProof.Rows
open L2 hiding CX0 E0 pass0
open C8
/-! sorted(..) of tuples that rise by their first int -/
/-- the first int of the tuple at v -/
def fstI (h : Heap) : Value → Int
  | .ref a => (match h.get? a with
    | some ⟨_, _, Data.seq xs _, _⟩ => (match (xs : Array Value)[0]? with
      | some (Value.int z _) => z
      | _ => 0)
    | _ => 0)
  | _ => 0
def IsT (h : Heap) (v : Value) (z : Int) : Prop := ∃ a o xs n t, v = .ref a ∧ h.get? a = some o ∧ o.cls = .type "tuple" ∧ o.data = .seq xs n ∧ xs[0]? = some (.int z t)
theorem IsT.fst {h : Heap} {v : Value} {z : Int} (i : IsT h v z) : fstI h v = z := by
  obtain ⟨a, o, xs, n, t, rfl, ho, hc, hd, hx⟩ := i
  obtain ⟨c, dd, dt, sl⟩ := o
  simp only at hc hd
  subst hc hd
  unfold fstI
  simp only [ho, hx]
theorem IsT.keeps {h h' : Heap} {v : Value} {z : Int} (i : IsT h v z) (k : ∀ b o, h.get? b = some o → o.cls = .type "tuple" → h'.get? b = some o) : IsT h' v z := by
  obtain ⟨a, o, xs, n, t, e, ho, hc, hd, hx⟩ := i
  exact ⟨a, o, xs, n, t, e, k _ _ ho hc, hc, hd, hx⟩
theorem tups_of {h : Heap} : ∀ {vs : List Value} {zs : List Int}, Paired (IsT h) vs zs → ∃ fs, PySem.W.KatTups h vs fs ∧ fs.length = vs.length ∧ ∀ f ∈ fs, ∃ z t, f = Value.int z t
  | _, _, .nil => ⟨[], trivial, rfl, fun _ m => nomatch m⟩
  | _, _, .cons (b := z) r t => by
    obtain ⟨fs, k, l, m⟩ := tups_of t
    obtain ⟨a, o, xs, n, t, e, ho, hc, hd, hx⟩ := r
    refine ⟨.int z t :: fs, ⟨⟨a, o, xs, n, e, ho, hc, hd, hx⟩, k⟩, congrArg (· + 1) l, fun f hf => ?_⟩
    rcases List.mem_cons.mp hf with rfl | hf
    · exact ⟨_, _, rfl⟩
    · exact m f hf
theorem lt_swo {α : Type} (k : α → Int) : SrtO.Swo fun x y => decide (k x < k y) := by
  refine ⟨fun x y h => ?_, fun x y z h1 h2 => ?_⟩
  · have := of_decide_eq_true h
    exact decide_eq_false (by omega)
  · have := of_decide_eq_false h1
    have := of_decide_eq_false h2
    exact decide_eq_false (by omega)
theorem rise_inj {α : Type} (k : α → Int) : ∀ {l : List α}, l.Pairwise (fun x y => k x < k y) → ∀ x ∈ l, ∀ y ∈ l, k x = k y → x = y
  | [], _, _, h, _, _, _ => nomatch h
  | a :: l, p, x, hx, y, hy, e => by
    rw [List.pairwise_cons] at p
    rcases List.mem_cons.mp hx with ex | hx
    · rcases List.mem_cons.mp hy with ey | hy
      · rw [ex, ey]
      · have := p.1 y hy
        rw [ex] at e
        omega
    · rcases List.mem_cons.mp hy with ey | hy
      · have := p.1 x hx
        rw [ey] at e
        omega
      · exact rise_inj k p.2 x hx y hy e
section
variable {prog : Program} {w : World} {A : Around} {E : Value → Shared → Prop} {s : Shared}
theorem same_lex {b fin : Bool} {Q : Bool → Shared → Prop} (q : Q fin s) : ∀ (l : List Value) (i : Nat), PySem.W.KatLex prog w A b fin Q (l.zip l) i s
  | [], i => q
  | v :: l, i => PySem.W.kat_cons (SeqAt.EqAt.same v prog w _ _ (PySem.W.kat_yes (same_lex q l (i + 1))))
theorem rise_cmp {vs : List Value} {zs : List Int} (hp : Paired (IsT s.heap) vs zs) (up : vs.Pairwise fun x y => fstI s.heap x < fstI s.heap y) {k : Value → Int} (hk : ∀ v ∈ vs, k v = fstI s.heap v) :
    SrtO.Cmp prog w A s (tuples' true) (fun p => p.1 ∈ vs) (SrtO.lt2 fun v u => decide (k v < k u)) := by
  have at_ : ∀ v ∈ vs, IsT s.heap v (fstI s.heap v) := fun v hv => by
    have : ∀ {vs : List Value} {zs : List Int}, Paired (IsT s.heap) vs zs → v ∈ vs → ∃ z, IsT s.heap v z := fun h => by
      induction h with
      | nil => intro m; cases m
      | cons r _ ih =>
        intro m
        rcases List.mem_cons.mp m with rfl | m
        · exact ⟨_, r⟩
        · exact ih m
    obtain ⟨z, i⟩ := this hp hv
    rw [i.fst]
    exact i
  intro p q hm hm'
  show wpAny (model prog w) A (keyLt' (tuples' true) p.1 q.1) (fun r s' => s' = s ∧ r = decide (k p.1 < k q.1)) (fun _ _ => False) s
  rw [hk _ hm, hk _ hm']
  by_cases e : p.1 = q.1
  · rw [← e]
    obtain ⟨a, o, xs, n, t, e1, ho, hc, hd, hx⟩ := at_ _ hm
    rw [e1]
    exact PySem.W.kat_lt ho hd ho hd (same_lex ⟨rfl, by rw [decide_eq_false (Nat.lt_irrefl _), decide_eq_false (Int.lt_irrefl _)]⟩ xs.toList 0)
  · have hne : fstI s.heap p.1 ≠ fstI s.heap q.1 := fun z => e (rise_inj _ up _ hm _ hm' z)
    have i1 := at_ _ hm
    have i2 := at_ _ hm'
    generalize fstI s.heap p.1 = x at *
    generalize fstI s.heap q.1 = y at *
    obtain ⟨a, o, xs, n, t, e1, ho, hc, hd, hx⟩ := i1
    obtain ⟨a', o', xs', n', t', e1', ho', hc', hd', hx'⟩ := i2
    rw [e1, e1']
    refine PySem.W.kat_lt ho hd ho' hd' ?_
    obtain ⟨r, er⟩ : ∃ r, xs.toList = .int x t :: r := by
      have : xs.toList[0]? = some (.int x t) := by rw [Array.getElem?_toList]; exact hx
      cases hl : xs.toList with
      | nil => rw [hl] at this; cases this
      | cons v r =>
        rw [hl] at this
        cases this
        exact ⟨r, rfl⟩
    obtain ⟨r', er'⟩ : ∃ r, xs'.toList = .int y t' :: r := by
      have : xs'.toList[0]? = some (.int y t') := by rw [Array.getElem?_toList]; exact hx'
      cases hl : xs'.toList with
      | nil => rw [hl] at this; cases this
      | cons v r =>
        rw [hl] at this
        cases this
        exact ⟨r, rfl⟩
    rw [er, er', List.zip_cons_cons]
    refine PySem.W.kat_cons (SeqAt.EqAt.int_int x t y t' prog w _ _ ?_)
    refine PySem.W.kat_go (fun e1 => absurd (by simpa using e1) hne) fun _ => ?_
    exact PySem.W.kat_no (oneLt_int ⟨rfl, rfl⟩)
theorem sorted_rise {l : Addr} {vs : List Value} {zs : List Int} {Q : Value → Shared → Prop} (hl : s.heap.IsList l vs.toArray) (hz : vs.length ≤ sizeLine) (hp : Paired (IsT s.heap) vs zs) (up : zs.Pairwise (· < ·))
    (h : ∀ (h' : Heap) (d : Addr), (∀ b o, s.heap.get? b = some o → h'.get? b = some o) → s.heap.objs.size ≤ d → (∃ n, h'.get? d = some (seqObj "list" vs.toArray n)) → Q (.ref d) { s with heap := h' }) :
    wpAny (model prog w) A (call (.builtin "sorted") [.ref l]) Q E s := by
  have ups : ∀ {h' : Heap} {vs : List Value} {zs : List Int}, Paired (IsT h') vs zs → zs.Pairwise (· < ·) → vs.map (fstI h') = zs := fun hp up => by
    induction hp with
    | nil => rfl
    | cons r _ ih => rw [List.map_cons, r.fst, ih (List.pairwise_cons.mp up).2]
  have up' : vs.Pairwise fun x y => fstI s.heap x < fstI s.heap y := by
    have e := ups hp up
    rw [← e, List.pairwise_map] at up
    exact up
  refine SrtO.sorted_ord (lt_swo (fstI s.heap)) hl hz (fun h2 h1 a ha kk => ?_) fun out hs hb => ?_
  · intro h' keep
    have kp : ∀ b o, s.heap.get? b = some o → o.cls = .type "tuple" → h'.get? b = some o := fun b o e _ => keep b o (kk b o e).1 (kk b o e).2
    have hp' : Paired (IsT h') vs zs := Paired.mapP hp fun _ _ i => i.keeps kp
    obtain ⟨fs, k1, k2, k3⟩ := tups_of hp'
    have ek : ∀ v ∈ vs, fstI s.heap v = fstI h' v := fun v hv => by
      have : ∀ {vs : List Value} {zs : List Int}, Paired (IsT s.heap) vs zs → v ∈ vs → fstI s.heap v = fstI h' v := fun h => by
        induction h with
        | nil => intro m; cases m
        | cons r _ ih =>
          intro m
          rcases List.mem_cons.mp m with rfl | m
          · rw [r.fst, (r.keeps kp).fst]
          · exact ih m
      exact this hp hv
    refine ⟨tuples' true, fun Q E hq => ?_, rise_cmp (s := { s with heap := h' }) hp' ?_ ek⟩
    · refine PySem.W.kat_kind (T := .type "int") k1 (by omega) (fun f hm => ?_) (by rfl) ?_
      · obtain ⟨x, t, rfl⟩ := k3 f hm
        exact PySem.W.Looks.now
      · have e : (Value.type "int" != Value.type "tuple") = true := by first | decide +kernel | rfl
        rw [e]
        exact hq
    · have e := ups hp' up
      rw [← e, List.pairwise_map] at up
      exact up
  · have hv : SrtO.Srtd (fun v u => decide (fstI s.heap v < fstI s.heap u)) vs := up'.imp fun h => decide_eq_false (by omega)
    have : out = vs := SrtO.stb_uniq (lt_swo (fstI s.heap)) hs hv hb
    subst this
    exact h _ _ (fun b o e => sortedAll_old e) (Nat.le_succ _) (sortedAll_at s.heap out out.toArray)
end
def rSortedT (K : PySem.W.Frag) : List V → Hp → VK → Prop := fun vs H Q => ∃ (a : Addr) (xs : List V) (zs : List Int), vs = [V.ref a] ∧ SqL K H a xs ∧ xs.length < 64 ∧ Paired (fun v z => ∃ t r, v = V.ref t ∧ SqT K H t (V.int z :: r)) xs zs ∧ zs.Pairwise (· < ·) ∧ ∀ p, H p = none → Q (.ref p) (upd H p (.lst xs))
theorem cr_sortedT {X : Cx} (hc : X.calm = true) : CallR X (.builtin "sorted") (rSortedT X.K) := by
  intro pins s σ H vs us Q I r h
  obtain ⟨a, xs, zs, rfl, hs, h64, hp, up, q⟩ := h
  obtain ⟨its, rv, hl, hz⟩ := I.list hs
  obtain ⟨u, rfl, ru⟩ := vals1 r
  obtain rfl : u = Value.ref a := ru
  have tups : ∀ {xs : List V} {its : List Value} {zs : List Int}, Vals xs its → Paired (fun v z => ∃ t r, v = V.ref t ∧ SqT X.K H t (V.int z :: r)) xs zs → Paired (IsT s.heap) its zs := fun {xs} => by
    induction xs with
    | nil =>
      intro its zs r p
      cases r
      cases p
      exact .nil
    | cons x xs ih =>
      intro its zs r p
      cases r with
      | cons r1 r2 =>
        cases p with
        | cons p1 p2 =>
          refine .cons ?_ (ih r2 p2)
          obtain ⟨t, r, rfl, ht⟩ := p1
          cases r1
          obtain ⟨ts, rt, ⟨o, ho, hc, n, hd⟩, _⟩ := I.tuple ht
          cases rt with
          | cons r0 _ =>
            obtain ⟨tk, rfl⟩ := r0
            exact ⟨t, o, _, n, tk, rfl, ho, hc, hd, by simp⟩
  refine sorted_rise hl.isList (by rw [← rv.length]; exact hz) (tups rv hp) up fun h' d kp hd ⟨n, hn⟩ => ?_
  exact ⟨.ref d, upd H d (.lst xs), I.laid (t' := s.toks) kp hd ⟨hz, its, n, rv, hn⟩, rfl, q d (I.hok.fresh hd)⟩
end K85
end
section
set_option maxHeartbeats 400000
/-! more rules over the hand layer -/
namespace K85
open PySem PySem.Spec PyProof.Rows
open L2 hiding CX0 E0 pass0
open C8
abbrev rAddI : R2 := rI0 fun i j => .int (i + j)
abbrev rSubI : R2 := rI0 fun i j => .int (i - j)
abbrev rMulI : R2 := rI CMul fun i j => .int (i * j)
abbrev rModI : R2 := rI (fun _ j => 0 < j) fun i j => .int (i % j)
abbrev rDivI : R2 := rI CDiv fun i j => .int (i / j)
abbrev rDivW : R2 := rI CDivW fun i j => .int (i / j)
abbrev rPowI : R2 := rI CPow fun i j => .int (i ^ j.toNat)
abbrev rNegI : V → Hp → VK → Prop := rU fun i => .int (-i)
abbrev rLtI : R2 := rI0 fun i j => .bl (decide (i < j))
abbrev rLeI : R2 := rI0 fun i j => .bl (decide (i ≤ j))
abbrev rGtI : R2 := rI0 fun i j => .bl (decide (j < i))
abbrev rGeI : R2 := rI0 fun i j => .bl (decide (j ≤ i))
abbrev rAddSt : R2 := fun x y H Q => ∃ i j, x = .str i ∧ y = .str j ∧ i.length + j.length ≤ sizeLine ∧ Q (.str (i ++ j)) H
abbrev rLenT : List V → Hp → VK → Prop := fun xs H Q => ∃ z, xs = [.str z] ∧ z.length ≤ sizeLine ∧ Q (.int z.length) H
abbrev rAbsI : List V → Hp → VK → Prop := fun xs H Q => ∃ i, xs = [.int i] ∧ Q (.int (if i < 0 then -i else i)) H
abbrev rTupS (K : PySem.W.Frag) : List V → Hp → VK → Prop := fun xs H Q => ∃ p ys, xs = [.ref p] ∧ ((SqL K H p ys ∧ ∀ l, H l = none → Q (.ref l) (upd H l (.tup ys))) ∨ (SqT K H p ys ∧ Q (.ref p) H))
abbrev rListDT : List V → Hp → VK → Prop := fun xs H Q => ∃ d kvs, xs = [V.ref d] ∧ Rd H d (.dT kvs) ∧ ∀ p bs, H p = none → IsKeys H kvs bs → Q (.ref p) (upd H p (.lst (bs.map V.ref)))
abbrev rTIx (K : PySem.W.Frag) : V → List V → Hp → VK → Prop := fun x xs H Q => ∃ p, ∃ ys : List Str, ∃ z j, x = .ref p ∧ xs = [.str z] ∧ SqT K H p (ys.map V.str) ∧ ys[j]? = some z ∧ (∀ m, m < j → ys[m]? ≠ some z) ∧ Q (.int (j : Nat)) H
abbrev rSIx : V → List V → Hp → VK → Prop := fun x xs H Q => ∃ a b i rest, x = .str a ∧ xs = [.str b] ∧ Builtin.Str.occurrences a b 0 a.length 1 = i :: rest ∧ Q (.int (i : Nat)) H
abbrev rSortedDI : List V → Hp → VK → Prop := fun xs H Q => ∃ (a : Addr) (kvs : List (Key × V)) (ks : List Int), xs = [.ref a] ∧ Rd H a (.dK kvs) ∧ kvs.map (·.1) = ks.map Sum.inl ∧ ks.length < 64 ∧ ∀ (ys : List Int) (p : Addr), ys.Perm ks → ys.Pairwise (· ≤ ·) → H p = none → Q (.ref p) (upd H p (.lst (ys.map V.int)))
/-- what the top leaves -/
structure Wd (K : PySem.W.Frag) (mg : Str → Option Value) : Prop where
  fact : ∀ (i : Nat) (f : He.Fa), fa[i]? = some f → f.ok K = true
  at_ : ∃ h : Heap, K.In h ∧ h.Ns mainGlobals mg
  tabs : tabsB K = true
section
variable {K : PySem.W.Frag} {mg : Str → Option Value}
theorem Wd.glo (T : Wd K mg) (i : Nat) {x : Str} (h : fa[i]? = some (.glo x) := by rfl) : ∃ u, mg x = some u ∧ RelV (.ref (He.ga K x)) u := by
  obtain ⟨_, X, G⟩ := T.at_
  exact ⟨_, He.glo_ok X G (T.fact i _ h), rfl⟩
theorem Wd.mgl (T : Wd K mg) (i : Nat) {x : Str} (h : fa[i]? = some (.glo x) := by rfl) : mg x = some (.ref (He.ga K x)) := by
  obtain ⟨_, X, G⟩ := T.at_
  exact He.glo_ok X G (T.fact i _ h)
theorem Wd.int (T : Wd K mg) (i : Nat) {x : Str} {z : Int} (h : fa[i]? = some (.int x z) := by rfl) : ∃ u, mg x = some u ∧ RelV (.int z) u := by
  obtain ⟨_, X, G⟩ := T.at_
  obtain ⟨t, e⟩ := He.int_ok X G (T.fact i _ h)
  exact ⟨_, e, t, rfl⟩
theorem Wd.str (T : Wd K mg) (i : Nat) {x z : Str} (h : fa[i]? = some (.str x z) := by rfl) : ∃ u, mg x = some u ∧ RelV (.str z) u := by
  obtain ⟨_, X, G⟩ := T.at_
  obtain ⟨t, e⟩ := He.str_ok X G (T.fact i _ h)
  exact ⟨_, e, t, rfl⟩
theorem Wd.free (T : Wd K mg) (i : Nat) {x : Str} (h : fa[i]? = some (.free x) := by rfl) : mg x = none := by
  obtain ⟨_, X, G⟩ := T.at_
  exact He.free_ok X G (T.fact i _ h)
theorem Wd.cls (T : Wd K mg) (i : Nat) {x : Str} (h : fa[i]? = some (.cls x) := by rfl) : Cls K (He.ga K x) := He.cls_ok (T.fact i _ h)
theorem Wd.noat (T : Wd K mg) (i : Nat) {x f : Str} (h : fa[i]? = some (.noat x f) := by rfl) : NoAttr K (He.ga K x) f := He.noat_ok (T.fact i _ h)
theorem Wd.meth (T : Wd K mg) (i : Nat) {x m : Str} (h : fa[i]? = some (.meth x m) := by rfl) : Meth K (He.ga K x) m (He.ma K (He.ga K x) m) := He.meth_ok (T.fact i _ h)
theorem Wd.mkr (T : Wd K mg) (i : Nat) {x : Str} (h : fa[i]? = some (.mkr x) := by rfl) : Mk K (He.ga K x) (He.ma K (He.ga K x) "__init__") := He.mkr_ok (T.fact i _ h)
theorem Wd.pow (T : Wd K mg) (H : Hp) : SqL K H (He.ga K "POWERS") (powL.map V.int) := by
  have h := (He.ba T.tabs).1
  have q := He.lstB_ok h H
  rw [List.map_map] at q
  exact q
theorem Wd.kin (T : Wd K mg) (H : Hp) : SqT K H (He.ga K "KINDS") (kinL.map V.str) := by
  have h := (He.ba (He.ba T.tabs).2).1
  have q := He.tupB_ok h H
  rw [List.map_map] at q
  exact q
theorem Wd.chk (T : Wd K mg) (H : Hp) : SqL K H (He.ga K "CHECKS") ((List.range 18).map fun i => V.ref (chkAt K i)) := by
  have h := (He.ba (He.ba (He.ba T.tabs).2).2).1
  have q := He.lstB_ok h H
  rw [List.map_map] at q
  exact q
theorem Wd.chkRow (T : Wd K mg) (H : Hp) {i : Nat} (hi : i < 18) : SqT K H (chkAt K i) ((chkL.getD i []).map V.int) := by
  have h := (He.ba (He.ba (He.ba (He.ba T.tabs).2).2).2).1
  exact tupAB_ok (List.all_eq_true.mp h i (List.mem_range.mpr hi)) H
theorem Wd.kinT (T : Wd K mg) (H : Hp) : tyV K "tuple" (.ref (He.ga K "KINDS")) H := .inr (.inl ⟨rfl, kinB_ok (He.ba (He.ba (He.ba (He.ba T.tabs).2).2).2).2⟩)
end
section
variable {X : Cx} {j k : Nat} {x : Str} {C : Addr} {sp : Sp} {dvs : List V} {p pos : Pos}
theorem pe_mk0 (c : Mak X.prog X.w X.K X.mg X.base k x C sp dvs) (hr : Room j X.A) (hk : k + 1 ≤ j) (hg : Gl X x) (hdb : (x == ("__debug__" : Str)) = false := by decide) :
    PE X (.Call (.Name x p) [] [] pos) (tMake C sp dvs C8.E0 tNil) := by
  obtain ⟨f, fd, ps, ds, M, F, hm, b, d⟩ := c.ex
  exact pe_make0 (E := C8.E0) M F (hr.mono hk) hg hm b d C8.pass0 hdb
end
/-! list + list, both read -/
section
variable {X : Cx}
def rCatS (K : PySem.W.Frag) : R2 := fun x y H Q => ∃ l b xs zs, x = .ref l ∧ y = .ref b ∧ SqL K H l xs ∧ SqL K H b zs ∧ xs.length + zs.length ≤ sizeLine ∧ ∀ p, H p = none → Q (.ref p) (upd H p (.lst (xs ++ zs)))
theorem op_catS : OpR X (binaryOp .Add) (rCatS X.K) := fun pins s σ H x y v u Q I rx ry ⟨l, b, xs, zs, ex, ey, hH, hB, hz, q⟩ => by
  subst ex ey
  obtain rfl : v = Value.ref l := rx
  obtain rfl : u = Value.ref b := ry
  obtain ⟨⟨is1, r1, p1, _⟩, is2, r2, p2, _⟩ := And.intro (I.list hH) (I.list hB)
  obtain ⟨⟨c1, dd, da, sl⟩, ho, hc, n, hd⟩ := p1.isList
  obtain ⟨⟨c2, dd2, da2, sl2⟩, ho2, hc2, n2, hd2⟩ := p2.isList
  simp only at hc hd hc2 hd2
  subst hc hd hc2 hd2
  have z1 := r1.length
  have z2 := r2.length
  refine concat_meets ⟨_, ho, rfl⟩ ⟨_, ho2, rfl⟩ noFill_list_add seq_list_add PySem.F.slot_list_add PySem.F.entry_list_add (PySem.F.args_list_add_2 _ _) (list_addW l b is1.toArray is2.toArray n n2 dd dd2 sl sl2 (by rw [List.size_toArray, List.size_toArray]; omega)) ⟨ho, ho2, ?_⟩
  rw [show is1.toArray ++ is2.toArray = (is1 ++ is2).toArray by simp]
  exact ⟨.ref _, _, I.lnew (t' := s.toks) (r1.append r2) (by rw [List.length_append]; exact hz), rfl, q _ I.fresh⟩
/-- xs.extend(ys), ys a list or a tuple -/
theorem list_extendW (T : String) (hT : T = "list" ∨ T = "tuple") (l : Addr) (items : Array Value) (n : Nat) (b : Addr) (items2 : Array Value) (n2 : Nat) (dd2 : Option Addr) (sl2 : Array (Option Value)) (hs0 : ¬(!items.isEmpty && Builtin.List.listTooLong (items.size + items2.size)) = true) (hs1 : items.size ≤ sizeLine) (hs2 : items.size + items2.size ≤ sizeLine + 1) :
    Meets (Builtin.«list.extend» ⟨[.ref l, .ref b], []⟩) (fun _ R s => s.heap.get? l = some { cls := .type "list", dict := none, data := .seq items n, slots := #[] } ∧ s.heap.get? b = some { cls := .type T, dict := dd2, data := .seq items2 n2, slots := sl2 } ∧ R (.ok (.ret Value.none)) { s with heap := s.heap.update l (Obj.mapSeq fun x => x ++ items2), toks := s.toks }) := by
  have roomy : (items ++ items2).size ≤ sizeLine + 1 := by
    rw [Array.size_append]
    exact hs2
  rcases hT with rfl | rfl <;> refine .of_wp fun prog w A R s ⟨hl, hb, k⟩ => ?_ <;> obtain ⟨hp, g, d, tk, os⟩ := s <;>
    (obtain ⟨f1, f2, f3, f4, f5⟩ := And.intro AutoSeq1.idx_int (And.intro AutoSeq1.sub_tuple_tuple (And.intro AutoSeq1.sub_list_list (And.intro AutoSeq1.sub_tuple_list AutoSeq1.sub_list_tuple)))
     wp_walk using (wpAny_updateSeq hl rfl (hz := hs1) (_hz' := roomy)), wpAny_loadPart' hl, wpAny_loadPart' hb
     exact ⟨_, rfl, k⟩)
def rExtS (K : PySem.W.Frag) : V → List V → Hp → VK → Prop := fun x vs H Q => ∃ l b xs zs, x = .ref l ∧ vs = [.ref b] ∧ H l = some (.lst xs) ∧ (SqL K H b zs ∨ SqT K H b zs) ∧ xs.length + zs.length ≤ sizeLine ∧ Q .non (upd H l (.lst (xs ++ zs)))
theorem mt_extendS : MtM X "list.extend" (rExtS X.K) := fun pins s σ H x vs v us Q I rx rv ⟨l, b, xs, zs, ex, ey, hH, hB, hz, q⟩ => by
  subst ex ey
  obtain rfl : v = Value.ref l := rx
  obtain ⟨u, rfl, ru⟩ := rv.one
  obtain rfl : u = Value.ref b := ru
  obtain ⟨z, is1, n, r1, hl, e⟩ := I.lstM hH
  have fin : ∀ (T : String), (T = "list" ∨ T = "tuple") → ∀ (is2 : List Value), Vals zs is2 → ∀ (dd2 : Option Addr) (sl2 : Array (Option Value)) (n2 : Nat), s.heap.get? b = some { cls := .type T, dict := dd2, data := .seq is2.toArray n2, slots := sl2 } →
      wpAny (model X.prog X.w) X.A (call (.builtin "list.extend") [.ref l, .ref b]) (EP X pins σ Q) X.xe s := fun T hT is2 r2 dd2 sl2 n2 e2 => by
    have both : is1.toArray.size + is2.toArray.size ≤ sizeLine := by
      rw [List.size_toArray, List.size_toArray, ← r2.length]
      omega
    exact call_meets PySem.F.slot_list_extend ⟨_, e, rfl⟩ PySem.F.entry_list_extend (PySem.F.args_list_extend_2 _ _)
      (list_extendW T hT l is1.toArray n b is2.toArray n2 dd2 sl2 (by rw [notLongL both, Bool.and_false]; exact Bool.false_ne_true) (by omega) (by omega)) ⟨e, e2, .non, _, I.lset (its' := is1 ++ is2) hH e (by simp) (r1.append r2) (by rw [List.length_append]; exact hz), rfl, q⟩
  rcases hB with hB | hB
  · obtain ⟨is2, r2, p2, _⟩ := I.list hB
    obtain ⟨⟨c2, dd2, da2, sl2⟩, ho2, hc2, n2, hd2⟩ := p2.isList
    simp only at hc2 hd2
    subst hc2 hd2
    exact fin _ (.inl rfl) is2 r2 dd2 sl2 n2 ho2
  · obtain ⟨is2, r2, p2, _⟩ := I.tuple hB
    obtain ⟨⟨c2, dd2, da2, sl2⟩, ho2, hc2, n2, hd2⟩ := p2
    simp only at hc2 hd2
    subst hc2 hd2
    exact fin _ (.inr rfl) is2 r2 dd2 sl2 n2 ho2
/-- for over a list or a tuple -/
def iSeq (K : PySem.W.Frag) (tl : TE) : TI := fun σ H R => tl σ H fun x H1 => ∃ a, x = .ref a ∧ (((∃ xs, SqL K H1 a xs) ∧ R (Itl K a) H1) ∨ ((∃ xs, SqT K H1 a xs) ∧ R (Itt K a) H1))
theorem pi_seq {tg l : Expr} {tl : TE} (hl : PE X l tl) : PI X tg l (iSeq X.K tl) := ⟨fun pins s σ H R I h => thn (hl.run pins s σ H _ I h) fun v s1 ⟨x, H1, I1, r1, a, ex, q1⟩ => by
  subst ex
  obtain rfl : v = Value.ref a := r1
  have old : ∀ (it : Obj) (b : Addr) (o : Obj), s1.heap.get? b = some o → (s1.heap.push it).get? b = some o := fun it b o => Heap.get?_push_of_some it
  have own : ∀ b ∈ [s1.heap.objs.size], _ := fun b hb => (List.mem_singleton.mp hb).symm ▸ I1.fpOk (H' := H1) (Nat.le_refl s1.heap.objs.size) (I1.hok.fresh (Nat.le_refl _))
  rcases q1 with ⟨⟨xs, hq⟩, q⟩ | ⟨⟨xs, hq⟩, q⟩
  · obtain ⟨its, rv, p, _⟩ := I1.list hq
    exact wpAny_pyIter_list p.isList ⟨_, [_], _, _, H1, rfl, I1.kept (t' := s1.toks) (old _), turn_list a _, ⟨_, Heap.get?_push_size _ rfl, rfl, rfl⟩, own, q⟩
  · obtain ⟨its, rv, p, _⟩ := I1.tuple hq
    exact wpAny_pyIter_tuple (items := its.toArray) p ⟨_, [_], _, _, H1, rfl, I1.kept (t' := s1.toks) (old _), turn_tuple a _, ⟨_, Heap.get?_push_size _ rfl, rfl, rfl⟩, own, q⟩⟩
end
end K85
namespace K85
open PySem PySem.Spec PyProof.Rows
open L2 hiding CX0 E0 pass0
open C8
section
variable {K : PySem.W.Frag} {mg : Str → Option Value}
theorem cl_Joiner (T : Wd K mg) : Cls K (He.ga K "Joiner") := T.cls 73
theorem na_Joiner_so_far (T : Wd K mg) : NoAttr K (He.ga K "Joiner") "so_far" := T.noat 75
theorem cl_SignRow (T : Wd K mg) : Cls K (He.ga K "SignRow") := T.cls 78
theorem na_SignRow_sign_row (T : Wd K mg) : NoAttr K (He.ga K "SignRow") "sign_row" := T.noat 80
theorem na_SignRow_next_spot (T : Wd K mg) : NoAttr K (He.ga K "SignRow") "next_spot" := T.noat 81
theorem cl_Map (T : Wd K mg) : Cls K (He.ga K "Map") := T.cls 85
theorem na_Map_kept_news (T : Wd K mg) : NoAttr K (He.ga K "Map") "kept_news" := T.noat 87
end
end K85
end
section
set_option maxHeartbeats 400000
/-! a small calculus over readings -/
namespace K85
open PySem PySem.Spec PyProof.Rows
open L2 hiding CX0 E0 pass0
open C8 Evl
/-! data that never changes -/
mutual
inductive Im (K : PySem.W.Frag) (H : Hp) : V → PyData → Prop
  | non : Im K H .non .none
  | bl (b : Bool) : Im K H (.bl b) (.bool b)
  | int (i : Int) : Im K H (.int i) (.int i)
  | str (x : Str) : Im K H (.str x) (.str x)
  | tup {a : Addr} {xs : List V} {ds : List PyData} : SqT K H a xs → ImAll K H xs ds → Im K H (.ref a) (.tuple ds)
inductive ImAll (K : PySem.W.Frag) (H : Hp) : List V → List PyData → Prop
  | nil : ImAll K H [] []
  | cons {v : V} {vs : List V} {d : PyData} {ds : List PyData} : Im K H v d → ImAll K H vs ds → ImAll K H (v :: vs) (d :: ds)
end
def Tx (K : PySem.W.Frag) (H H' : Hp) : Prop := ∀ a xs, SqT K H a xs → SqT K H' a xs
section
variable {K : PySem.W.Frag} {H H' : Hp}
theorem Tx.ex (e : Ex H H') : Tx K H H' := fun _ _ h => ex_t e h
mutual
theorem Im.tx (e : Tx K H H') : ∀ (d : PyData) (v : V), Im K H v d → Im K H' v d
  | _, _, .non => .non
  | _, _, .bl b => .bl b
  | _, _, .int i => .int i
  | _, _, .str x => .str x
  | .tuple ds, _, .tup h a => .tup (e _ _ h) (ImAll.tx e ds _ a)
theorem ImAll.tx (e : Tx K H H') : ∀ (ds : List PyData) (vs : List V), ImAll K H vs ds → ImAll K H' vs ds
  | _, _, .nil => .nil
  | d :: ds, _, .cons h t => .cons (Im.tx e d _ h) (ImAll.tx e ds _ t)
end
theorem Im.ex {v : V} {d : PyData} (e : Ex H H') (h : Im K H v d) : Im K H' v d := Im.tx (Tx.ex e) d v h
theorem ImAll.ex {vs : List V} {ds : List PyData} (e : Ex H H') (h : ImAll K H vs ds) : ImAll K H' vs ds := ImAll.tx (Tx.ex e) ds vs h
mutual
theorem Im.dp : ∀ (d : PyData) (v : V), Im K H v d → Dp K H v d
  | _, _, .non => .non
  | _, _, .bl b => .bl b
  | _, _, .int i => .int i
  | _, _, .str x => .str x
  | .tuple ds, _, .tup h a => .tup h (ImAll.dp ds _ a)
theorem ImAll.dp : ∀ (ds : List PyData) (vs : List V), ImAll K H vs ds → DpAll K H vs ds
  | _, _, .nil => .nil
  | d :: ds, _, .cons h t => .cons (Im.dp d _ h) (ImAll.dp ds _ t)
end
mutual
theorem Dp.exM (e : Ex H H') : ∀ (d : PyData) (v : V), Dp K H v d → Dp K H' v d
  | _, _, .non => .non
  | _, _, .bl b => .bl b
  | _, _, .int i => .int i
  | _, _, .str x => .str x
  | .list ds, _, .lst h a => .lst (ex_l e h) (DpAll.exM e ds _ a)
  | .tuple ds, _, .tup h a => .tup (ex_t e h) (DpAll.exM e ds _ a)
theorem DpAll.exM (e : Ex H H') : ∀ (ds : List PyData) (vs : List V), DpAll K H vs ds → DpAll K H' vs ds
  | _, _, .nil => .nil
  | d :: ds, _, .cons h t => .cons (Dp.exM e d _ h) (DpAll.exM e ds _ t)
end
theorem ImAll.ints : ∀ (ns : List Int), ImAll K H (ns.map V.int) (ns.map PyData.int)
  | [] => .nil
  | n :: ns => .cons (.int n) (ImAll.ints ns)
theorem ImAll.ints_eq : ∀ {vs : List V} {ns : List Int}, ImAll K H vs (ns.map PyData.int) → vs = ns.map V.int
  | _, [], h => by cases h; rfl
  | _, n :: ns, h => by
    cases h with
    | cons h t => cases h; rw [ImAll.ints_eq t]; rfl
theorem ImAll.strs_eq : ∀ {vs : List V} {ns : List Str}, ImAll K H vs (ns.map PyData.str) → vs = ns.map V.str
  | _, [], h => by cases h; rfl
  | _, n :: ns, h => by
    cases h with
    | cons h t => cases h; rw [ImAll.strs_eq t]; rfl
theorem ImAll.strs : ∀ (ns : List Str), ImAll K H (ns.map V.str) (ns.map PyData.str)
  | [] => .nil
  | n :: ns => .cons (.str n) (ImAll.strs ns)
theorem ImAll.length : ∀ {vs : List V} {ds : List PyData}, ImAll K H vs ds → vs.length = ds.length
  | _, _, .nil => rfl
  | _, _, .cons _ t => congrArg Nat.succ t.length
theorem ImAll.get : ∀ {vs : List V} {ds : List PyData} {i : Nat} {v : V}, ImAll K H vs ds → vs[i]? = some v → ∃ d, ds[i]? = some d ∧ Im K H v d
  | _, _, _, _, .nil, e => by simp at e
  | _, _, 0, _, .cons h _, e => by simp at e; subst e; exact ⟨_, rfl, h⟩
  | _, _, i + 1, _, .cons _ t, e => ImAll.get (i := i) t (by simpa using e)
theorem ImAll.get' : ∀ {vs : List V} {ds : List PyData} {i : Nat} {d : PyData}, ImAll K H vs ds → ds[i]? = some d → ∃ v, vs[i]? = some v ∧ Im K H v d
  | _, _, _, _, .nil, e => by simp at e
  | _, _, 0, _, .cons h _, e => by simp at e; subst e; exact ⟨_, rfl, h⟩
  | _, _, i + 1, _, .cons _ t, e => ImAll.get' (i := i) t (by simpa using e)
theorem ImAll.app : ∀ {vs ws : List V} {ds es : List PyData}, ImAll K H vs ds → ImAll K H ws es → ImAll K H (vs ++ ws) (ds ++ es)
  | _, _, _, _, .nil, h => h
  | _, _, _, _, .cons a t, h => .cons a (t.app h)
theorem Im.tup_inv {v : V} {ds : List PyData} (h : Im K H v (.tuple ds)) : ∃ a xs, v = .ref a ∧ SqT K H a xs ∧ ImAll K H xs ds := by
  cases h with
  | tup h a => exact ⟨_, _, rfl, h, a⟩
theorem Im.int_inv {v : V} {i : Int} (h : Im K H v (.int i)) : v = .int i := by cases h; rfl
theorem Im.str_inv {v : V} {i : Str} (h : Im K H v (.str i)) : v = .str i := by cases h; rfl
/-- what new immutable data is told -/
def RetI (K : PySem.W.Frag) (d : PyData) (H : Hp) (Q : VK) : Prop := ∀ v H2, Ex H H2 → Im K H2 v d → Q v H2
end
/-! items -/
section
variable {α : Type}
theorem at_nat {xs : List α} {i : Int} {v : α} (h0 : 0 ≤ i) (h : xs[i.toNat]? = some v) : atI xs i = some v := by
  have e : i = (i.toNat : Int) := by omega
  rw [e]
  exact atI_nat h
theorem at_int {ns : List Int} {i : Int} (h0 : 0 ≤ i) (h1 : i < ns.length) : atI (ns.map V.int) i = some (.int (ns.getD i.toNat 0)) := by
  refine at_nat h0 ?_
  rw [List.getElem?_map, List.getD_eq_getElem?_getD]
  have h : i.toNat < ns.length := by omega
  rw [List.getElem?_eq_getElem h]
  rfl
end
/-! evaluation -/
section
variable {K : PySem.W.Frag} {σ : L2.St} {H H' : Hp} {ta tb tc te : TE} {x y z v : V} {r r' : R2}
theorem ev_chain {a b : Bool} (ha : Ev ta σ H x) (hb : Ev tb σ H y) (hr : RV r x y H (.bl a)) (hc : a = true → Ev tc σ H z) (hr' : a = true → RV r' y z H (.bl b)) : Ev (tChain r r' ta tb tc) σ H (.bl (a && b)) := fun H1 e Q q =>
  ha H1 e _ fun H2 e2 => hb H2 (e.trans e2) _ fun H3 e3 => hr H3 ((e.trans e2).trans e3) _ fun H4 e4 => ⟨a, rfl, by
    cases a with
    | true =>
      show tc σ H4 fun w' H5 => r' y w' H5 Q
      exact hc rfl H4 (((e.trans e2).trans e3).trans e4) _ fun H5 e5 => hr' rfl H5 ((((e.trans e2).trans e3).trans e4).trans e5) _ fun H6 e6 => q H6 (((((e2.trans e3).trans e4).trans e5)).trans e6)
    | false =>
      show Q (.bl false) H4
      exact q H4 ((e2.trans e3).trans e4)⟩
theorem ev_lenT {p : Addr} {xs : List V} (ha : Ev ta σ H (.ref p)) (h : SqT K H p xs) : Ev (tCB (rLenS K) (tCons ta tNil)) σ H (.int (xs.length : Int)) := fun H1 e Q q =>
  ha H1 e _ fun H2 e2 => ⟨p, xs, rfl, Or.inr (ex_t (e.trans e2) h), q H2 e2⟩
theorem ev_lenS {z : Str} (ha : Ev ta σ H (.str z)) (h : z.length ≤ 100000) : Ev (tCB rLenT (tCons ta tNil)) σ H (.int (z.length : Int)) := fun H1 e Q q =>
  ha H1 e _ fun H2 e2 => ⟨z, rfl, sz_of h, q H2 e2⟩
theorem rv_mul {i j : Int} (hc : (-18446744073709551616 < i ∧ i < 18446744073709551616) ∨ (-18446744073709551616 < j ∧ j < 18446744073709551616)) : RV rMulI (.int i) (.int j) H (.int (i * j)) := rv_I hc
theorem rv_mod {i j : Int} (hc : 0 < j) : RV rModI (.int i) (.int j) H (.int (i % j)) := rv_I (C := fun _ j => 0 < j) hc
theorem rv_div {i j : Int} (hc : 0 < j ∧ j < 1073741824) : RV rDivI (.int i) (.int j) H (.int (i / j)) := rv_I hc
theorem rv_cat {a b : Addr} {xs ys : List V} (h1 : SqL K H a xs) (h2 : SqL K H b ys) (hz : xs.length + ys.length ≤ 100000) : ∀ H1, Ex H H1 → ∀ Q : VK, (∀ p H2, H1 p = none → Ex H1 H2 → H2 p = some (.lst (xs ++ ys)) → Q (.ref p) H2) → rCatS K (.ref a) (.ref b) H1 Q := fun H1 e Q q =>
  ⟨a, b, xs, ys, rfl, rfl, ex_l e h1, ex_l e h2, sz_of hz, fun p hp => q p _ hp (Ex.new hp) upd_same⟩
/-- list + list -/
theorem el_cat {xs ys : List V} (ha : EvL ta σ H xs) (hb : EvL tb σ H ys) (hz : xs.length + ys.length ≤ 100000) : EvL (tOp (rCatS K) ta tb) σ H (xs ++ ys) := fun H1 e Q k =>
  ha H1 e _ fun p H2 hp0 e2 hp => hb H2 (e.trans e2) _ fun q H3 hq0 e3 hq => rv_cat (sq_of (e3 p _ hp)) (sq_of hq) hz H3 (Ex.refl H3) Q fun l H4 hl e4 h4 => k l H4 (fresh_back (e2.trans e3) hl) ((e2.trans e3).trans e4) h4
theorem el_catV {a : Addr} {xs ys : List V} (ha : Ev ta σ H (.ref a)) (h : SqL K H a xs) (hb : EvL tb σ H ys) (hz : xs.length + ys.length ≤ 100000) : EvL (tOp (rCatS K) ta tb) σ H (xs ++ ys) := fun H1 e Q k =>
  ha H1 e _ fun H2 e2 => hb H2 (e.trans e2) _ fun q H3 hq0 e3 hq => rv_cat (ex_l ((e.trans e2).trans e3) h) (sq_of hq) hz H3 (Ex.refl H3) Q fun l H4 hl e4 h4 => k l H4 (fresh_back (e2.trans e3) hl) ((e2.trans e3).trans e4) h4
/-- list(..) of a list, a tuple -/
theorem el_listT {p : Addr} {xs : List V} (ha : Ev ta σ H (.ref p)) (h : SqT K H p xs) : EvL (tCB (rListS K) (tCons ta tNil)) σ H xs := fun H1 e Q q =>
  ha H1 e _ fun H2 e2 => ⟨p, xs, rfl, Or.inr (ex_t (e.trans e2) h), fun l hl => q l _ (fresh_back e2 hl) (e2.trans (Ex.new hl)) upd_same⟩
/-- the sum of a new list -/
theorem ev_sum {ns : List Int} (ha : EvL ta σ H (ns.map V.int)) : Ev (tCB (rSum K) (tCons ta tNil)) σ H (.int ns.sum) := fun H1 e Q q =>
  ha H1 e _ fun p H2 _ e2 hp => ⟨p, ns, rfl, sq_of hp, q H2 e2⟩
theorem ev_isN (ha : Ev ta σ H x) : Ev (tOp rIsN ta (tC .non)) σ H (.bl (decide (x = .non))) := ev_op ha ev_c fun H1 _ _ q => ⟨rfl, q H1 (Ex.refl H1)⟩
theorem ev_notN (ha : Ev ta σ H x) : Ev (tOp rNotN ta (tC .non)) σ H (.bl (!decide (x = .non))) := ev_op ha ev_c fun H1 _ _ q => ⟨rfl, q H1 (Ex.refl H1)⟩
/-- deep == -/
theorem rv_eqD {d e : PyData} (h1 : Dp K H x d) (h2 : Dp K H y e) (s1 : SeqAt.shaped d = true) (s2 : SeqAt.shaped e = true) : RV (rEqD K) x y H (.bl (PyData.eqv d e)) := fun H1 ex _ q => ⟨d, e, Dp.exM ex d _ h1, Dp.exM ex e _ h2, s1, s2, q H1 (Ex.refl H1)⟩
theorem rv_neD {d e : PyData} (h1 : Dp K H x d) (h2 : Dp K H y e) (s1 : SeqAt.shaped d = true) (s2 : SeqAt.shaped e = true) : RV (rNeD K) x y H (.bl (!PyData.eqv d e)) := fun H1 ex _ q => ⟨d, e, Dp.exM ex d _ h1, Dp.exM ex e _ h2, s1, s2, q H1 (Ex.refl H1)⟩
/-- comprehensions whose elements are ints, no test -/
theorem given_all {n : Nat} {v : Nat → V} : given n (fun _ => true) v = (List.range n).map v := by
  unfold given
  rw [List.filter_eq_self.mpr (fun _ _ => rfl)]
theorem et_yes : EvT tYes σ H true := fun H1 _ _ q => q H1 (Ex.refl H1)
theorem el_is {xs ys : List V} (h : EvL te σ H xs) (e : xs = ys) : EvL te σ H ys := e ▸ h
theorem el_mapR1 {ta : TA} {j : Nat} {vs : List Nat} {n : Int} (v : Nat → Int) (h : EvA ta σ H [.int n]) (hn : 0 ≤ n ∧ n ≤ 40000) (hw : ∀ x, wipe ((wipe σ vs).set j (some x)) vs = wipe σ vs)
    (he : ∀ (i : Nat) H1, Ex H H1 → (i : Int) < n → Ev te ((wipe σ vs).set j (some (.int (i : Int)))) H1 (.int (v i))) : EvL (tLc (iRng1 ta) (gName j) tYes te vs) σ H (((List.range n.toNat).map v).map V.int) := by
  have q := el_lcR1 (σ := σ) (H := H) (j := j) (vs := vs) (n := n) (te := te) (t := tYes) (ta := ta) (fun _ => true) (fun i => .int (v i)) h hn hw (fun i H1 _ _ => et_yes) (fun i H1 e hi _ => he i H1 e hi)
  rw [given_all] at q
  rw [List.map_map]
  exact q
theorem el_mapR2 {ta : TA} {j : Nat} {vs : List Nat} {lo n : Int} (v : Nat → Int) (h : EvA ta σ H [.int lo, .int n]) (hn : 0 ≤ lo ∧ lo ≤ 40000 ∧ 0 ≤ n ∧ n ≤ 40000) (hw : ∀ x, wipe ((wipe σ vs).set j (some x)) vs = wipe σ vs)
    (he : ∀ (i : Nat) H1, Ex H H1 → lo + (i : Int) < n → Ev te ((wipe σ vs).set j (some (.int (lo + (i : Int))))) H1 (.int (v i))) : EvL (tLc (iRng2 ta) (gName j) tYes te vs) σ H (((List.range (n - lo).toNat).map v).map V.int) := by
  rw [List.map_map]
  have q : EvL (tLc (iRng2 ta) (gName j) tYes te vs) σ H (given (n - lo).toNat (fun _ => true) (fun i => .int (v i))) := fun H0 e Q q => h H0 e _ fun H1 e1 => ⟨lo, n, rfl, ⟨by omega, by omega, by omega, by omega⟩, fun Dl hD =>
    lc_range (lo := lo) (n := (n - lo).toNat) (Cw H1 (fun _ => true) (fun i => .int (v i)) Dl) ⟨hD, Ex.new hD, upd_same⟩ (fun i H' hi p =>
      ⟨hw _, cw_turn p (by omega) et_yes (fun _ => he i H1 (e.trans e1) (by omega))⟩) (fun H' p => q Dl H' (fresh_back e1 p.1) (e1.trans p.2.1) p.2.2)⟩
  rw [given_all] at q
  exact q
/-- [i for i in range(n) if ..] -/
theorem el_filR1 {ta : TA} {t : TT} {j : Nat} {vs : List Nat} {n : Int} (f : Nat → Bool) (h : EvA ta σ H [.int n]) (hn : 0 ≤ n ∧ n ≤ 40000) (hw : ∀ x, wipe ((wipe σ vs).set j (some x)) vs = wipe σ vs)
    (ht : ∀ (i : Nat) H1, Ex H H1 → (i : Int) < n → EvT t ((wipe σ vs).set j (some (.int (i : Int)))) H1 (f i))
    (he : ∀ (i : Nat) H1, Ex H H1 → (i : Int) < n → Ev te ((wipe σ vs).set j (some (.int (i : Int)))) H1 (.int (i : Int))) : EvL (tLc (iRng1 ta) (gName j) t te vs) σ H ((((List.range n.toNat).filter f).map fun i : Nat => (i : Int)).map V.int) := by
  have q := el_lcR1 (σ := σ) (H := H) (j := j) (vs := vs) (n := n) (te := te) (t := t) (ta := ta) f (fun i => .int (i : Int)) h hn hw ht (fun i H1 e hi _ => he i H1 e hi)
  rw [List.map_map]
  exact q
theorem flat_ints : ∀ (ns : List Int), (ns.map V.int).all flatV = true
  | [] => rfl
  | _ :: ns => by
    rw [List.map_cons, List.all_cons, flat_ints ns]
    rfl
theorem in_ints (z : Int) : ∀ (ns : List Int), inV (.int z) (ns.map V.int) = decide (z ∈ ns)
  | [] => rfl
  | n :: ns => by
    show (eqV (.int n) (.int z) || inV (.int z) (ns.map V.int)) = _
    rw [in_ints z ns]
    have e : eqV (.int n) (.int z) = decide (z = n) := by
      show (n == z) = _
      by_cases h : n = z
      · subst h
        simp
      · rw [decide_eq_false (fun q => h q.symm)]
        exact beq_eq_false_iff_ne.mpr h
    rw [e]
    simp
theorem rv_inInts {neg : Bool} {p : Addr} {ns : List Int} {z : Int} (h : SqL K H p (ns.map V.int)) : RV (rIn K neg) (.int z) (.ref p) H (.bl (if neg then !decide (z ∈ ns) else decide (z ∈ ns))) := by
  have q := rv_inL (neg := neg) (x := .int z) h rfl (flat_ints ns)
  rw [in_ints] at q
  exact q
theorem ev_inInts {p : Addr} {ns : List Int} {z : Int} (ha : Ev ta σ H (.int z)) (hb : Ev tb σ H (.ref p)) (h : SqL K H p (ns.map V.int)) : Ev (tOp (rIn K false) ta tb) σ H (.bl (decide (z ∈ ns))) := ev_op ha hb (rv_inInts h)
theorem ev_niInts {p : Addr} {ns : List Int} {z : Int} (ha : Ev ta σ H (.int z)) (hb : Ev tb σ H (.ref p)) (h : SqL K H p (ns.map V.int)) : Ev (tOp (rIn K true) ta tb) σ H (.bl (!decide (z ∈ ns))) := ev_op ha hb (rv_inInts h)
end
/-! new immutable data -/
section
variable {K : PySem.W.Frag} {σ : L2.St} {H H' : Hp} {ta : TA} {te : TE} {v : V} {d : PyData} {ds : List PyData} {D : Ends}
def EvI (K : PySem.W.Frag) (te : TE) (σ : L2.St) (H : Hp) (d : PyData) : Prop := ∀ H1, Ex H H1 → ∀ Q : VK, (∀ v H2, Ex H1 H2 → Im K H2 v d → Q v H2) → te σ H1 Q
def EvIA (K : PySem.W.Frag) (ta : TA) (σ : L2.St) (H : Hp) (ds : List PyData) : Prop := ∀ H1, Ex H H1 → ∀ Q : List V → Hp → Prop, (∀ vs H2, Ex H1 H2 → ImAll K H2 vs ds → Q vs H2) → ta σ H1 Q
/-- a new list of such -/
def EvIL (K : PySem.W.Frag) (te : TE) (σ : L2.St) (H : Hp) (ds : List PyData) : Prop := ∀ H1, Ex H H1 → ∀ Q : VK, (∀ p xs H2, H1 p = none → Ex H1 H2 → H2 p = some (.lst xs) → ImAll K H2 xs ds → Q (.ref p) H2) → te σ H1 Q
theorem EvI.mono (e : Ex H H') (h : EvI K te σ H d) : EvI K te σ H' d := fun H1 a Q q => h H1 (e.trans a) Q q
theorem evi_of (h : Ev te σ H v) (hi : Im K H v d) : EvI K te σ H d := fun H1 e Q q => h H1 e _ fun H2 e2 => q v H2 e2 (Im.ex (e.trans e2) hi)
theorem evi_int {i : Int} (h : Ev te σ H (.int i)) : EvI K te σ H (.int i) := evi_of h (.int i)
theorem evi_nil : EvIA K tNil σ H [] := fun H1 _ _ q => q [] H1 (Ex.refl H1) .nil
theorem evi_cons (h : EvI K te σ H d) (hr : EvIA K ta σ H ds) : EvIA K (tCons te ta) σ H (d :: ds) := fun H1 e Q q =>
  h H1 e _ fun v H2 e2 i2 => hr H2 (e.trans e2) _ fun vs H3 e3 i3 => q _ H3 (e2.trans e3) (.cons (Im.ex e3 i2) i3)
theorem evi_tup (h : EvIA K ta σ H ds) (hl : ds.length ≤ 100000) : EvI K (tTup ta) σ H (.tuple ds) := fun H1 e Q q =>
  h H1 e _ fun vs H2 e2 i2 => ⟨by rw [i2.length]; exact sz_of hl, fun p hp => q _ _ (e2.trans (Ex.new hp)) (.tup (st_of upd_same) (ImAll.ex (Ex.new hp) i2))⟩
theorem eil_lst (h : EvIA K ta σ H ds) (hl : ds.length ≤ 100000) : EvIL K (tLst ta) σ H ds := fun H1 e Q q =>
  h H1 e _ fun vs H2 e2 i2 => ⟨by rw [i2.length]; exact sz_of hl, fun p hp => q p vs _ (fresh_back e2 hp) (e2.trans (Ex.new hp)) upd_same (ImAll.ex (Ex.new hp) i2)⟩
theorem s_retI (h : EvI K te σ H d) (k : ∀ v H1, Ex H H1 → Im K H1 v d → D.rt v H1) : tRet te D σ H := h H (Ex.refl H) _ k
theorem s_retIL (h : EvIL K te σ H ds) (k : ∀ p xs H1, H p = none → Ex H H1 → H1 p = some (.lst xs) → ImAll K H1 xs ds → D.rt (.ref p) H1) : tRet te D σ H := h H (Ex.refl H) _ k
theorem s_asgI {i : Nat} (h : EvI K te σ H d) (k : ∀ v H1, Ex H H1 → Im K H1 v d → D.nx (σ.set i (some v)) H1) : tAsg te (gName i) D σ H := h H (Ex.refl H) _ k
theorem q_asgI {i : Nat} {tz : TS} (h : EvI K te σ H d) (k : ∀ v H1, Ex H H1 → Im K H1 v d → tz D (σ.set i (some v)) H1) : tSeq (tAsg te (gName i)) tz D σ H := h H (Ex.refl H) _ k
theorem q_asgIL {i : Nat} {tz : TS} (h : EvIL K te σ H ds) (k : ∀ p xs H1, H p = none → Ex H H1 → H1 p = some (.lst xs) → ImAll K H1 xs ds → tz D (σ.set i (some (.ref p))) H1) : tSeq (tAsg te (gName i)) tz D σ H := h H (Ex.refl H) _ k
def SpI (K : PySem.W.Frag) (sp : Sp) (vs : List V) (H : Hp) (d : PyData) : Prop := ∀ H1, Ex H H1 → ∀ Q : VK, (∀ v H2, Ex H1 H2 → Im K H2 v d → Q v H2) → ∀ E : XK, sp vs H1 Q E
theorem evi_call {sp : Sp} {dvs vs : List V} {E : XK} (h : EvA ta σ H vs) (hs : SpI K sp (vs ++ dvs) H d) : EvI K (tCall sp dvs E ta) σ H d := fun H1 e Q q =>
  h H1 e _ fun H2 e2 => hs H2 (e.trans e2) Q (fun v H3 e3 => q v H3 (e2.trans e3)) E
end
section
variable {σ : L2.St} {H : Hp} {ta : TA} {D : Ends} {tz : TS}
theorem q_par {i j : Nat} {v w : V} (h : EvA ta σ H [v, w]) (k : ∀ H1, Ex H H1 → tz D ((σ.set i (some v)).set j (some w)) H1) : tSeq (tPar i j ta) tz D σ H := h H (Ex.refl H) _ fun H1 e => ⟨v, w, rfl, k H1 e⟩
end
/-- a list, or None -/
def RetO (K : PySem.W.Frag) (o : Option (List PyData)) (H : Hp) (Q : VK) : Prop := match o with
  | none => ∀ H2, Ex H H2 → Q .non H2
  | some ds => ∀ l xs H2, Ex H H2 → H2 l = some (.lst xs) → ImAll K H2 xs ds → Q (.ref l) H2
section
variable {K : PySem.W.Frag} {σ : L2.St} {H H' : Hp} {ta : TA} {te : TE} {D : Ends} {t u : TS}
def EvRO (K : PySem.W.Frag) (te : TE) (σ : L2.St) (H : Hp) (o : Option (List PyData)) : Prop := ∀ H1, Ex H H1 → ∀ Q : VK, RetO K o H1 Q → te σ H1 Q
theorem RetO.mono {o : Option (List PyData)} {Q : VK} (e : Ex H H') (h : RetO K o H Q) : RetO K o H' Q := by
  cases o with
  | none => exact fun H2 e2 => h H2 (e.trans e2)
  | some ds => exact fun l xs H2 e2 => h l xs H2 (e.trans e2)
theorem s_asgO {o : Option (List PyData)} {i : Nat} (h : EvRO K te σ H o) (k : RetO K o H fun v H1 => D.nx (σ.set i (some v)) H1) : tAsg te (gName i) D σ H := h H (Ex.refl H) _ k
theorem seq_with (M : L2.St → Hp → Prop) (h : (∀ σ' H', M σ' H' → u D σ' H') → tSeq t u D σ H) (hu : ∀ σ' H', M σ' H' → u D σ' H') : tSeq t u D σ H := h hu
theorem el_rep {ta tb : TE} {xs : List V} {k : Int} (ha : EvL ta σ H xs) (hb : Ev tb σ H (.int k)) (hk : 0 ≤ k ∧ k ≤ 1000 ∧ xs.length ≤ 100) : EvL (tOp rRep ta tb) σ H (List.replicate k.toNat xs).flatten := fun H1 e Q q =>
  ha H1 e _ fun p H2 hp0 e2 hp => hb H2 (e.trans e2) _ fun H3 e3 => ⟨p, k, xs, rfl, rfl, e3 p _ hp, by omega, by omega, Nat.le_trans (Nat.mul_le_mul hk.2.2 (show k.toNat ≤ 1000 by omega)) (by decide), fun l hl => q l _ (fresh_back (e2.trans e3) hl) ((e2.trans e3).trans (Ex.new hl)) upd_same⟩
end
/-! ints as data -/
theorem canLay_ints : ∀ ns : List Int, PyData.canLayAll0 (ns.map PyData.int) = true
  | [] => rfl
  | _ :: ns => by rw [List.map_cons, PyData.canLayAll0, canLay_ints ns]; rfl
theorem depth_ints : ∀ ns : List Int, PyData.depthAll (ns.map PyData.int) = 0
  | [] => rfl
  | _ :: ns => by rw [List.map_cons, PyData.depthAll, depth_ints ns]; rfl
theorem shaped_lints (ns : List Int) : SeqAt.shaped (.list (ns.map PyData.int)) = true := by
  unfold SeqAt.shaped
  rw [PyData.canLay0, canLay_ints, PyData.depth, depth_ints]
  rfl
theorem shaped_tints (ns : List Int) : SeqAt.shaped (.tuple (ns.map PyData.int)) = true := by
  unfold SeqAt.shaped
  rw [PyData.canLay0, canLay_ints, PyData.depth, depth_ints]
  rfl
theorem eqv_ints : ∀ xs ys : List Int, PyData.eqvAll (xs.map PyData.int) (ys.map PyData.int) = decide (xs = ys)
  | [], [] => rfl
  | [], _ :: _ => rfl
  | _ :: _, [] => rfl
  | x :: xs, y :: ys => by
    rw [List.map_cons, List.map_cons, PyData.eqvAll, eqv_ints xs ys]
    have e : PyData.eqv (.int x) (.int y) = (x == y) := by rw [PyData.eqv]
    rw [e, Bool.eq_iff_iff]
    simp
theorem eqv_lints (xs ys : List Int) : PyData.eqv (.list (xs.map PyData.int)) (.list (ys.map PyData.int)) = decide (xs = ys) := by rw [PyData.eqv, eqv_ints]
theorem eqv_tints (xs ys : List Int) : PyData.eqv (.tuple (xs.map PyData.int)) (.tuple (ys.map PyData.int)) = decide (xs = ys) := by rw [PyData.eqv, eqv_ints]
theorem dp_lints {K : PySem.W.Frag} {H : Hp} {a : Addr} {ns : List Int} (h : SqL K H a (ns.map V.int)) : Dp K H (.ref a) (.list (ns.map PyData.int)) := .lst h (ImAll.dp _ _ (ImAll.ints ns))
theorem dp_tints {K : PySem.W.Frag} {H : Hp} {a : Addr} {ns : List Int} (h : SqT K H a (ns.map V.int)) : Dp K H (.ref a) (.tuple (ns.map PyData.int)) := .tup h (ImAll.dp _ _ (ImAll.ints ns))
/-! lists grown, walked -/
section
variable {K : PySem.W.Frag} {σ : L2.St} {H H' : Hp} {ta tl te : TE} {D : Ends} {tz tu : TS} {g : TG}
theorem q_ext {l b : Addr} {xs zs : List V} (hl : H l = some (.lst xs)) (ha : Ev ta σ H (.ref l)) (h : Ev te σ H (.ref b)) (hb : SqL K H b zs ∨ SqT K H b zs) (hz : xs.length + zs.length ≤ 100000) (k : ∀ H1, Ex H H1 → tz D σ (upd H1 l (.lst (xs ++ zs)))) :
    tSeq (tDrop (tBM K "list" (rExtS K) ta (tCons te tNil))) tz D σ H := ha H (Ex.refl H) _ fun H1 e1 =>
  ⟨Or.inl ⟨rfl, xs, sq_of (e1 l _ hl)⟩, h H1 e1 _ fun H2 e2 => ⟨l, b, xs, zs, rfl, rfl, e2 l _ (e1 l _ hl), hb.imp (ex_l (e1.trans e2)) (ex_t (e1.trans e2)), sz_of hz, k H2 (e1.trans e2)⟩⟩
theorem q_extL {l : Addr} {xs zs : List V} (hl : H l = some (.lst xs)) (ha : Ev ta σ H (.ref l)) (h : EvL te σ H zs) (hz : xs.length + zs.length ≤ 100000) (k : ∀ H1, Ex H H1 → tz D σ (upd H1 l (.lst (xs ++ zs)))) :
    tSeq (tDrop (tBM K "list" (rExtS K) ta (tCons te tNil))) tz D σ H := ha H (Ex.refl H) _ fun H1 e1 =>
  ⟨Or.inl ⟨rfl, xs, sq_of (e1 l _ hl)⟩, h H1 e1 _ fun b H2 _ e2 hb => ⟨l, b, xs, zs, rfl, rfl, e2 l _ (e1 l _ hl), Or.inl (sq_of hb), sz_of hz, k H2 (e1.trans e2)⟩⟩
theorem s_ext {l b : Addr} {xs zs : List V} (hl : H l = some (.lst xs)) (ha : Ev ta σ H (.ref l)) (h : Ev te σ H (.ref b)) (hb : SqL K H b zs ∨ SqT K H b zs) (hz : xs.length + zs.length ≤ 100000) (k : ∀ H1, Ex H H1 → D.nx σ (upd H1 l (.lst (xs ++ zs)))) :
    tDrop (tBM K "list" (rExtS K) ta (tCons te tNil)) D σ H := ha H (Ex.refl H) _ fun H1 e1 =>
  ⟨Or.inl ⟨rfl, xs, sq_of (e1 l _ hl)⟩, h H1 e1 _ fun H2 e2 => ⟨l, b, xs, zs, rfl, rfl, e2 l _ (e1 l _ hl), hb.imp (ex_l (e1.trans e2)) (ex_t (e1.trans e2)), sz_of hz, k H2 (e1.trans e2)⟩⟩
theorem s_extL {l : Addr} {xs zs : List V} (hl : H l = some (.lst xs)) (ha : Ev ta σ H (.ref l)) (h : EvL te σ H zs) (hz : xs.length + zs.length ≤ 100000) (k : ∀ H1, Ex H H1 → D.nx σ (upd H1 l (.lst (xs ++ zs)))) :
    tDrop (tBM K "list" (rExtS K) ta (tCons te tNil)) D σ H := ha H (Ex.refl H) _ fun H1 e1 =>
  ⟨Or.inl ⟨rfl, xs, sq_of (e1 l _ hl)⟩, h H1 e1 _ fun b H2 _ e2 hb => ⟨l, b, xs, zs, rfl, rfl, e2 l _ (e1 l _ hl), Or.inl (sq_of hb), sz_of hz, k H2 (e1.trans e2)⟩⟩
/-- for over a list or a tuple -/
theorem q_forS {a : Addr} {xs : List V} (h : Ev tl σ H (.ref a)) (hx : SqL K H a xs ∨ SqT K H a xs) (Pv : Nat → L2.St → Hp → Prop) (h0 : ∀ H1, Ex H H1 → Pv 0 σ H1) (hl : ∀ i σ' H', i ≤ xs.length → Pv i σ' H' → Ex H H')
    (hs : ∀ i x σ' H', xs[i]? = some x → Pv i σ' H' → g x σ' H' fun σ2 H2 => tu { D with nx := Pv (i + 1), ct := Pv (i + 1), bk := tz D } σ2 H2) (hd : ∀ σ' H', Pv xs.length σ' H' → tz D σ' H') : tSeq (tFor (iSeq K tl) g tu) tz D σ H :=
  h H (Ex.refl H) _ fun H1 e => ⟨a, rfl, by
    rcases hx with hx | hx
    · exact .inl ⟨⟨xs, ex_l e hx⟩, for_list (D := { D with nx := tz D }) Pv (h0 H1 e) (fun i σ' H' hi p => ex_l (hl i σ' H' hi p) hx) hs hd⟩
    · exact .inr ⟨⟨xs, ex_t e hx⟩, for_tup (D := { D with nx := tz D }) Pv (h0 H1 e) (fun i σ' H' hi p => ex_t (hl i σ' H' hi p) hx) hs hd⟩⟩
theorem ev_lenA {p : Addr} {xs : List V} (ha : Ev ta σ H (.ref p)) (h : SqL K H p xs ∨ SqT K H p xs) : Ev (tCB (rLenS K) (tCons ta tNil)) σ H (.int (xs.length : Int)) := fun H1 e Q q =>
  ha H1 e _ fun H2 e2 => ⟨p, xs, rfl, h.imp (ex_l (e.trans e2)) (ex_t (e.trans e2)), q H2 e2⟩
theorem ev_setI {p : Addr} {ns : List Int} (ha : Ev ta σ H (.ref p)) (h : SqL K H p (ns.map V.int) ∨ SqT K H p (ns.map V.int)) (nd : ns.Nodup) (hz : ns.length ≤ 4000) : Ev (tLenSetA K ta) σ H (.int (ns.length : Int)) := fun H1 e Q q =>
  ha H1 e _ fun H2 e2 => ⟨p, rfl, .inl ⟨ns, h.imp (ex_l (e.trans e2)) (ex_t (e.trans e2)), nd, hz, q H2 e2⟩⟩
theorem ev_setS {p : Addr} {ns : List Str} (ha : Ev ta σ H (.ref p)) (h : SqL K H p (ns.map V.str)) (nd : ns.Nodup) (hz : ns.length ≤ 4000) : Ev (tLenSetA K ta) σ H (.int (ns.length : Int)) := fun H1 e Q q =>
  ha H1 e _ fun H2 e2 => ⟨p, rfl, .inr ⟨ns, ex_l (e.trans e2) h, nd, hz, q H2 e2⟩⟩
theorem evi_tupOf {p : Addr} {xs : List V} {ds : List PyData} (ha : Ev ta σ H (.ref p)) (h : SqL K H p xs ∨ SqT K H p xs) (hi : ImAll K H xs ds) : EvI K (tCB (rTupS K) (tCons ta tNil)) σ H (.tuple ds) := fun H1 e Q q =>
  ha H1 e _ fun H2 e2 => ⟨p, xs, rfl, by
    rcases h with h | h
    · exact .inl ⟨ex_l (e.trans e2) h, fun l hl => q _ _ (e2.trans (Ex.new hl)) (.tup (st_of upd_same) (ImAll.ex ((e.trans e2).trans (Ex.new hl)) hi))⟩
    · exact .inr ⟨ex_t (e.trans e2) h, q _ _ e2 (.tup (ex_t (e.trans e2) h) (ImAll.ex (e.trans e2) hi))⟩⟩
/-- tuple(..) of a new list -/
theorem evi_tupNew {ds : List PyData} (ha : EvIL K ta σ H ds) : EvI K (tCB (rTupS K) (tCons ta tNil)) σ H (.tuple ds) := fun H1 e Q q =>
  ha H1 e _ fun p xs H2 _ e2 h2 i2 => ⟨p, xs, rfl, .inl ⟨sq_of h2, fun l hl => q _ _ (e2.trans (Ex.new hl)) (.tup (st_of upd_same) (ImAll.ex (Ex.new hl) i2))⟩⟩
theorem eil_of {xs : List V} {ds : List PyData} (h : EvL te σ H xs) (hi : ∀ H1, Ex H H1 → ImAll K H1 xs ds) : EvIL K te σ H ds := fun H1 e Q q => h H1 e Q fun p H2 hp e2 h2 => q p xs H2 hp e2 h2 (hi H2 (e.trans e2))
theorem cut_nat {xs : List V} {i j : Nat} (h : i + j ≤ xs.length) : cutV xs (some (i : Int)) (some ((i + j : Nat) : Int)) = (xs.drop i).take j := by
  unfold cutV
  rw [HT.sIx_nat, HT.sIx_nat, Nat.min_eq_left (by omega), Nat.min_eq_left (by omega)]
  congr 1
  omega
theorem cut_from {xs : List V} {i : Nat} (h : i ≤ xs.length) : cutV xs (some (i : Int)) none = xs.drop i := by
  unfold cutV
  rw [HT.sIx_nat, HT.sIx_none, Nat.min_eq_left h, List.take_of_length_le]
  rw [List.length_drop]
  omega
theorem cut_any {xs : List V} {i j : Nat} : cutV xs (some (i : Int)) (some (j : Int)) = (xs.drop i).take (j - i) := by
  unfold cutV
  rw [HT.sIx_nat, HT.sIx_nat]
  by_cases h : i ≤ xs.length
  · rw [Nat.min_eq_left h]
    by_cases h2 : j ≤ xs.length
    · rw [Nat.min_eq_left h2]
    · rw [Nat.min_eq_right (by omega)]
      rw [List.take_of_length_le (by rw [List.length_drop]; omega), List.take_of_length_le (by rw [List.length_drop]; omega)]
  · rw [Nat.min_eq_right (show xs.length ≤ i by omega), List.drop_of_length_le (Nat.le_refl _), List.drop_of_length_le (show xs.length ≤ i by omega)]
    rw [List.take_nil, List.take_nil]
end
section
variable {K : PySem.W.Frag} {σ : L2.St} {H H' : Hp} {ta tv : TE} {D : Ends} {tz : TS}
theorem ev_fld {a C dx : Addr} {fs : List (Str × V)} {f : Str} {v : V} (h : Ev ta σ H (.ref a)) (ho : H a = some (.ins C dx fs)) (hc : Cls K C) (hn : NoAttr K C f) (hl : fs.lookup f = some v) : Ev (tFld K ta f) σ H v := fun H1 e _ q =>
  h H1 e _ fun H2 e2 => ⟨a, C, dx, fs, v, rfl, e2 _ _ (e _ _ ho), hc, hn, hl, q H2 e2⟩
theorem q_fld {a C dx : Addr} {fs : List (Str × V)} {f : Str} {v : V} (hv : Ev tv σ H v) (h : Ev ta σ H (.ref a)) (ho : H a = some (.ins C dx fs)) (hc : Cls K C) (hn : NoAttr K C f) (hz : fs.length < 1000) (k : ∀ H1, Ex H H1 → tz D σ (upd H1 a (.ins C dx (putF f v fs)))) : tSeq (sFld K ta tv f) tz D σ H :=
  hv H (Ex.refl H) _ fun H1 e1 => h H1 e1 _ fun H2 e2 => ⟨a, C, dx, fs, rfl, (e1.trans e2) _ _ ho, hc, hn, hz, k H2 (e1.trans e2)⟩
theorem s_fld {a C dx : Addr} {fs : List (Str × V)} {f : Str} {v : V} (hv : Ev tv σ H v) (h : Ev ta σ H (.ref a)) (ho : H a = some (.ins C dx fs)) (hc : Cls K C) (hn : NoAttr K C f) (hz : fs.length < 1000) (k : ∀ H1, Ex H H1 → D.nx σ (upd H1 a (.ins C dx (putF f v fs)))) : sFld K ta tv f D σ H :=
  hv H (Ex.refl H) _ fun H1 e1 => h H1 e1 _ fun H2 e2 => ⟨a, C, dx, fs, rfl, (e1.trans e2) _ _ ho, hc, hn, hz, k H2 (e1.trans e2)⟩
theorem q_fldL {a C dx : Addr} {fs : List (Str × V)} {f : Str} {xs : List V} (hv : EvL tv σ H xs) (h : ∀ σ' : Unit, ∀ H1, Ex H H1 → Ev ta σ H1 (.ref a)) (ho : H a = some (.ins C dx fs)) (hc : Cls K C) (hn : NoAttr K C f) (hz : fs.length < 1000) (k : ∀ l H1, H l = none → Ex H H1 → H1 l = some (.lst xs) → tz D σ (upd H1 a (.ins C dx (putF f (.ref l) fs)))) : tSeq (sFld K ta tv f) tz D σ H :=
  hv H (Ex.refl H) _ fun l H1 hl e1 h1 => h () H1 e1 H1 (Ex.refl H1) _ fun H2 e2 => ⟨a, C, dx, fs, rfl, (e1.trans e2) _ _ ho, hc, hn, hz, k l H2 hl (e1.trans e2) (e2 _ _ h1)⟩
theorem s_fldL {a C dx : Addr} {fs : List (Str × V)} {f : Str} {xs : List V} (hv : EvL tv σ H xs) (h : ∀ σ' : Unit, ∀ H1, Ex H H1 → Ev ta σ H1 (.ref a)) (ho : H a = some (.ins C dx fs)) (hc : Cls K C) (hn : NoAttr K C f) (hz : fs.length < 1000) (k : ∀ l H1, H l = none → Ex H H1 → H1 l = some (.lst xs) → D.nx σ (upd H1 a (.ins C dx (putF f (.ref l) fs)))) : sFld K ta tv f D σ H :=
  hv H (Ex.refl H) _ fun l H1 hl e1 h1 => h () H1 e1 H1 (Ex.refl H1) _ fun H2 e2 => ⟨a, C, dx, fs, rfl, (e1.trans e2) _ _ ho, hc, hn, hz, k l H2 hl (e1.trans e2) (e2 _ _ h1)⟩
end
/-- all but the things at these addresses stays -/
def Bt (S : List Addr) (H H' : Hp) : Prop := ∀ a o, a ∉ S → H a = some o → H' a = some o
theorem Bt.refl (S : List Addr) (H : Hp) : Bt S H H := fun _ _ _ h => h
theorem Bt.trans {S : List Addr} {H H1 H2 : Hp} (a : Bt S H H1) (b : Bt S H1 H2) : Bt S H H2 := fun x o n h => b x o n (a x o n h)
theorem Bt.ex {S : List Addr} {H H1 : Hp} (a : Ex H H1) : Bt S H H1 := fun x o _ h => a x o h
theorem Bt.upd {S : List Addr} {H H1 : Hp} {p : Addr} {o : HO} (a : Bt S H H1) (h : p ∈ S ∨ H p = none) : Bt S H (upd H1 p o) := fun x u n hx => by
  rw [upd_ne (fun z => by
    subst z
    rcases h with h | h
    · exact n h
    · rw [h] at hx; cases hx)]
  exact a x u n hx
theorem Bt.mono {S S' : List Addr} {H H1 : Hp} (a : Bt S H H1) (h : ∀ x, x ∈ S → x ∈ S') : Bt S' H H1 := fun x o n hx => a x o (fun z => n (h x z)) hx
theorem Bt.to_ex {H H1 : Hp} (a : Bt [] H H1) : Ex H H1 := fun x o h => a x o (by simp) h
theorem Bt.at {S : List Addr} {H H' : Hp} (a : Bt S H H') {p : Addr} {o : HO} (h : H p = some o) (hs : ∀ q ∈ S, p ≠ q) : H' p = some o := a p o (fun z => hs p z rfl) h
/-- tuples stay where the changed things are no tuples -/
theorem Bt.tx {K : PySem.W.Frag} {S : List Addr} {H H' : Hp} (a : Bt S H H') (hs : ∀ q ∈ S, ∃ o, H q = some o ∧ (∀ xs, o ≠ .tup xs) ∧ ∀ b u, o ≠ .frz b u) : Tx K H H' := fun p xs h => by
  rcases h with (h | ⟨o, h⟩) | h
  · refine .inl (.inl (a p _ (fun z => ?_) h))
    obtain ⟨o, h1, h2, _⟩ := hs p z
    rw [h] at h1
    exact h2 xs (Option.some.inj h1).symm
  · refine .inl (.inr ⟨o, a p _ (fun z => ?_) h⟩)
    obtain ⟨u, h1, _, h2⟩ := hs p z
    rw [h] at h1
    exact h2 _ _ (Option.some.inj h1).symm
  · exact .inr h
/-! comprehensions, by a word of the turn and the heap -/
section
variable {K : PySem.W.Frag} {σ : L2.St} {H : Hp} {ta : TA} {tl te : TE} {t : TT} {g : TG} {vs : List Nat} {Q : VK}
theorem lcR1_any {n : Int} (h : EvA ta σ H [.int n]) (hn : 0 ≤ n ∧ n ≤ 40000) (Pv : Addr → Nat → Hp → Prop) (h0 : ∀ Dl H1, H Dl = none → Ex H H1 → Pv Dl 0 (upd H1 Dl (.lst [])))
    (hs : ∀ Dl (i : Nat) H', (i : Int) < n → Pv Dl i H' → g (.int (i : Int)) (wipe σ vs) H' fun σ2 H2 => wipe σ2 vs = wipe σ vs ∧ t σ2 H2 fun b H3 => if b = true then te σ2 H3 fun y H4 => ∃ acc, H4 Dl = some (.lst acc) ∧ acc.length < sizeLine ∧ Pv Dl (i + 1) (upd H4 Dl (.lst (acc ++ [y]))) else Pv Dl (i + 1) H3)
    (hd : ∀ Dl H', Pv Dl n.toNat H' → Q (.ref Dl) H') : tLc (iRng1 ta) g t te vs σ H Q := h H (Ex.refl H) _ fun H1 e1 => ⟨n, rfl, by omega, by omega, fun Dl hD =>
  lc_range (lo := 0) (n := n.toNat) (Pv Dl) (h0 Dl H1 (fresh_back e1 hD) e1) (fun i H' hi p => by
    have e0 : (0 : Int) + (i : Int) = (i : Int) := Int.zero_add _
    rw [e0]
    exact hs Dl i H' (by omega) p) (hd Dl)⟩
theorem lcL_any {a : Addr} {xs : List V} (h : Ev tl σ H (.ref a)) (hx : SqL K H a xs) (Pv : Addr → Nat → Hp → Prop) (h0 : ∀ Dl H1, H Dl = none → Ex H H1 → Pv Dl 0 (upd H1 Dl (.lst []))) (hl : ∀ Dl i H', i ≤ xs.length → Pv Dl i H' → SqL K H' a xs)
    (hs : ∀ Dl (i : Nat) x H', xs[i]? = some x → Pv Dl i H' → g x (wipe σ vs) H' fun σ2 H2 => wipe σ2 vs = wipe σ vs ∧ t σ2 H2 fun b H3 => if b = true then te σ2 H3 fun y H4 => ∃ acc, H4 Dl = some (.lst acc) ∧ acc.length < sizeLine ∧ Pv Dl (i + 1) (upd H4 Dl (.lst (acc ++ [y]))) else Pv Dl (i + 1) H3)
    (hd : ∀ Dl H', Pv Dl xs.length H' → Q (.ref Dl) H') : tLc (iList K tl) g t te vs σ H Q := h H (Ex.refl H) _ fun H1 e1 => ⟨a, rfl, ⟨xs, ex_l e1 hx⟩, fun Dl hD =>
  lc_list (Pv Dl) (h0 Dl H1 (fresh_back e1 hD) e1) (hl Dl) (hs Dl) (hd Dl)⟩
/-- over a new list -/
theorem lcN_any {xs : List V} (h : EvL tl σ H xs) (Pv : Addr → Addr → Nat → Hp → Prop) (h0 : ∀ a Dl H1, H a = none → H Dl = none → Ex H H1 → H1 a = some (.lst xs) → H1 Dl = none → Pv a Dl 0 (upd H1 Dl (.lst []))) (hl : ∀ a Dl i H', i ≤ xs.length → Pv a Dl i H' → SqL K H' a xs)
    (hs : ∀ a Dl (i : Nat) x H', xs[i]? = some x → Pv a Dl i H' → g x (wipe σ vs) H' fun σ2 H2 => wipe σ2 vs = wipe σ vs ∧ t σ2 H2 fun b H3 => if b = true then te σ2 H3 fun y H4 => ∃ acc, H4 Dl = some (.lst acc) ∧ acc.length < sizeLine ∧ Pv a Dl (i + 1) (upd H4 Dl (.lst (acc ++ [y]))) else Pv a Dl (i + 1) H3)
    (hd : ∀ a Dl H', Pv a Dl xs.length H' → Q (.ref Dl) H') : tLc (iList K tl) g t te vs σ H Q := h H (Ex.refl H) _ fun a H1 ha e1 h1 => ⟨a, rfl, ⟨xs, sq_of h1⟩, fun Dl hD =>
  lc_list (Pv a Dl) (h0 a Dl H1 ha (fresh_back e1 hD) e1 h1 hD) (hl a Dl) (hs a Dl) (hd a Dl)⟩
end
theorem Tx.updL {K : PySem.W.Frag} {H : Hp} {D : Addr} {ys : List V} {o : HO} (h : H D = some (.lst ys)) : Tx K H (upd H D o) :=
  Bt.tx (S := [D]) (Bt.upd (Bt.refl _ _) (.inl (by simp))) fun q hq => by
    rw [List.mem_singleton.mp hq]
    exact ⟨_, h, fun xs z => (by cases z), fun b u z => (by cases z)⟩
theorem getD_mem_or {ns : List Int} {P : Int → Prop} (h : ∀ n ∈ ns, P n) (h0 : P 0) (k : Nat) : P (ns.getD k 0) := by
  rw [List.getD_eq_getElem?_getD]
  cases e : ns[k]? with
  | none => exact h0
  | some v => exact h v (List.mem_of_getElem? e)
end K85
end
section
set_option maxHeartbeats 400000
namespace K85
open PySem PySem.Spec PyProof.Rows
open L2 hiding CX0 E0 pass0
open C8 Evl
/-! ### tactics -/
local macro_rules | `(tactic| walk_at "side") => `(tactic| first | omega | assumption | rfl | decide)
local macro_rules | `(tactic| walk_at "at") => `(tactic| first | (refine at_int ?_ ?_ <;> first | omega | (simp; omega)) | assumption)
local macro_rules | `(tactic| walk_at "rv") => `(tactic| first
  | with_reducible exact rv_I0
  | ((with_reducible apply rv_eq); rfl)
  | ((with_reducible apply rv_ne); rfl)
  | ((with_reducible apply rv_mod); first | omega | decide)
  | ((with_reducible apply rv_mul); omega)
  | ((with_reducible apply rv_div); omega)
  | ((with_reducible apply rv_ixL); · assumption
     · walk_at "at")
  | ((with_reducible apply rv_ixT); · assumption
     · walk_at "at"))
local macro_rules | `(tactic| walk_at "ev") => `(tactic| first
  | ((with_reducible apply ev_var); rfl)
  | with_reducible exact ev_c
  | ((with_reducible apply ev_isN); walk_at "ev")
  | ((with_reducible apply ev_notN); walk_at "ev")
  | ((with_reducible apply ev_op); · walk_at "ev"
     · walk_at "ev"
     · walk_at "rv")
  | ((with_reducible apply ev_un); · walk_at "ev"
     · with_reducible exact ru_neg)
  | ((with_reducible apply ev_chain); · walk_at "ev"
     · walk_at "ev"
     · walk_at "rv"
     · intro _; walk_at "ev"
     · intro _; walk_at "rv")
  | ((with_reducible apply ev_len); · walk_at "ev"
     · assumption)
  | ((with_reducible apply ev_lenT); · walk_at "ev"
     · assumption)
  | ((with_reducible apply ev_andV); · walk_at "ev"
     · intro _; walk_at "ev")
  | with_reducible assumption)
local macro_rules | `(tactic| walk_at "evt") => `(tactic| first
  | ((with_reducible apply et_or); · walk_at "evt"
     · intro _; walk_at "evt")
  | ((with_reducible apply et_and); · walk_at "evt"
     · intro _; walk_at "evt")
  | ((with_reducible apply et_not); walk_at "evt")
  | ((with_reducible apply et_test); walk_at "ev")
  | ((with_reducible apply et_B); walk_at "ev")
  | with_reducible assumption)
local macro_rules | `(tactic| walk_at "bool") => `(tactic| first | rfl | (simp; done) | (simp; omega) | (simp; intros; omega) | grind)
section
variable {K : PySem.W.Frag} {mg : Str → Option Value}
/-! ### signs reckoned with -/
def isSig (n : Int) : Prop := 0 ≤ n ∧ n < 97
def sp_look_sign (_ : PySem.W.Frag) : Sp := fun vs H Q _ => ∃ (a : Int), vs = [.int a] ∧ 0 ≤ a ∧ a < 97 ∧ RetV .non H Q
/-- look_sign -/
def t_look_sign (K : PySem.W.Frag) : TS :=
    (tIfS (tOr (tTest (tOp rLtI (tVar 0) (tC (.int 0)))) (tTest (tOp rGeI (tVar 0) (tC (.int 97))))) tNever tNext)
theorem pure_look_sign (_ : Wd K mg) (vs : List V) (H : Hp) (Q : VK) (E : XK) (h : sp_look_sign K vs H Q E) : t_look_sign K { nx := fun _ H' => Q .non H', rt := Q } (start ["a"] vs) H := by
  obtain ⟨a, rfl, h0, h1, k⟩ := h
  refine s_when (b := false) (et_is (by walk_at "evt") (by walk_at "bool")) (fun h => nomatch h) fun _ H1 e => k H1 e
section
variable {P : Program} {w : World} {K : PySem.W.Frag} {mg : Str → Option Value} {base : Heap}
theorem sc_look_sign : FnScope ["a"] ["a"] (defScope s_look_sign) := ⟨rfl, rfl, rfl, by decide +kernel, rfl, by decide +kernel, by decide +kernel⟩
theorem dr_look_sign (T : Wd K mg) {f : Addr} {cdv : Value} {A : Around} {outer : List Env} {s : Shared} {H : Hp} {E : XK} (hr : Room 0 (A.deeper (envOfC "look_sign" (defScope s_look_sign) s.heap.objs.size f cdv))) :
    PSs (cxOf CX0 P w K mg base ["a"] "look_sign" (defScope s_look_sign) f cdv A outer s H E).nox (defBody s_look_sign) (t_look_sign K) := by
  have nd := sc_look_sign.nd
  exact (pss_one (ps_if (PW.pt (pw_or (pt_cmpR op_lt (pv 0) pe_int (nomark _)) (pw_or1 (pt_cmpR op_ge (pv 0) (pe_gc rfl (T.int 24)) (nomark _))))) pss_never pss_nil))
theorem ok_look_sign (T : Wd K mg) {f : Addr} {fd : FuncData} (F : FunD K ds_look_sign.name ds_look_sign.qual ds_look_sign.params ds_look_sign.body ds_look_sign.scope [] [] f fd) : FnOk P w K mg base CX0 1 f fd ["a"] (sp_look_sign K) := by
  refine FunD.ok F sc_look_sign (fun vs H Q E h => ?_) (fun cdv A outer s H vs Q E hr h => ⟨t_look_sign K, PSs.nox (dr_look_sign T  hr), pure_look_sign T vs H Q E h⟩)
  obtain ⟨_, e, _⟩ := h
  rw [e]
  all_goals rfl
end
theorem ev_look_sign {σ : L2.St} {H : Hp} {te : TE} {a : Int} (h : Ev te σ H (.int a)) (h0 : 0 ≤ a ∧ a < 97) : Ev (tCall (sp_look_sign K) [] E0 (tCons te tNil)) σ H .non :=
  ev_call (ea_cons h ea_nil) fun _ _ _ q _ => ⟨a, rfl, h0.1, h0.2, q⟩
/-! power -/
def sp_power (_ : PySem.W.Frag) : Sp := fun vs H Q _ => ∃ (a k : Int), vs = [.int a, .int k] ∧ 0 ≤ a ∧ a < 97 ∧ 0 ≤ k ∧ RetV (.int (a ^ k.toNat % 97)) H Q
/-- power -/
def t_power (K : PySem.W.Frag) : TS :=
    (tSeq (tDrop (tCall (sp_look_sign K) [] C8.E0 (tCons (tVar 0) tNil)))
    (tSeq (tAsg (tC (.int 1)) (gName 2))
    (tSeq (tAsg (tVar 0) (gName 3))
    (tSeq (tWhile (tTest (tOp rGtI (tVar 1) (tC (.int 0))))
    (tSeq (tIfS (tTest (tOp rEq (tOp rModI (tVar 1) (tC (.int 2))) (tC (.int 1)))) (tAsg (tOp rModI (tOp rMulI (tVar 2) (tVar 3)) (tC (.int 97))) (gName 2)) tNext)
    (tSeq (tAsg (tOp rModI (tOp rMulI (tVar 3) (tVar 3)) (tC (.int 97))) (gName 3))
    (tAsg (tOp rDivI (tVar 1) (tC (.int 2))) (gName 1)))))
    (tRet (tVar 2))))))
theorem pow_step (f s : Int) (k : Int) (hk : 0 < k) : (f * s ^ k.toNat) % 97 = ((if k % 2 = 1 then f * s % 97 else f) * (s * s % 97) ^ (k / 2).toNat) % 97 := by
  have e : k.toNat = (k / 2).toNat + (k / 2).toNat + (if k % 2 = 1 then 1 else 0) := by split <;> omega
  have hp : ∀ (x : Int) (n : Nat), (x % 97) ^ n % 97 = x ^ n % 97 := fun x n => by
    induction n with
    | zero => rw [Int.pow_zero, Int.pow_zero]
    | succ n ih => rw [Int.pow_succ, Int.pow_succ, Int.mul_emod, ih, Int.emod_emod, ← Int.mul_emod]
  have h2 : ∀ (c : Int), (c * (s * s % 97) ^ (k / 2).toNat) % 97 = (c * (s * s) ^ (k / 2).toNat) % 97 := fun c => by
    rw [Int.mul_emod, hp, ← Int.mul_emod]
  rw [h2, Int.mul_pow]
  split
  · rename_i h
    rw [if_pos h] at e
    have h3 : (f * s % 97 * (s ^ (k / 2).toNat * s ^ (k / 2).toNat)) % 97 = (f * s * (s ^ (k / 2).toNat * s ^ (k / 2).toNat)) % 97 := by rw [Int.mul_emod, Int.emod_emod, ← Int.mul_emod]
    rw [h3, e, Int.pow_succ, Int.pow_add]
    congr 1
    grind
  · rename_i h
    rw [if_neg h] at e
    rw [e, Nat.add_zero, Int.pow_add]
theorem pure_power (_ : Wd K mg) (vs : List V) (H : Hp) (Q : VK) (E : XK) (h : sp_power K vs H Q E) : t_power K { nx := fun _ H' => Q .non H', rt := Q } (start ["a", "k", "found", "square"] vs) H := by
  obtain ⟨a, k, rfl, h0, h1, hk, q⟩ := h
  refine q_drop (ev_look_sign (ev_var rfl) ⟨h0, h1⟩) fun H1 e1 => ?_
  refine q_asg ev_c fun H2 e2 => ?_
  refine q_asg (ev_var rfl) fun H3 e3 => ?_
  refine q_while (fun m σ' H' => ∃ (n f s : Int), m = n.toNat ∧ 0 ≤ n ∧ 0 ≤ f ∧ f < 97 ∧ 0 ≤ s ∧ s < 97 ∧ σ' = [some (.int a), some (.int n), some (.int f), some (.int s)] ∧ Ex H H' ∧ (f * s ^ n.toNat) % 97 = a ^ k.toNat % 97) k.toNat
    ⟨k, 1, a, rfl, hk, by omega, by omega, h0, h1, rfl, (e1.trans e2).trans e3, by rw [Int.one_mul]⟩ ?_
  rintro m σ' H' ⟨n, f, s, rfl, hn, f0, f1, s0, s1, rfl, e, hi⟩
  refine ⟨decide (0 < n), by walk_at "evt", fun hb H4 e4 => ⟨_, fun σ2 H2 z => z, ?_⟩, fun hb H4 e4 => ?_⟩
  · have hn' : 0 < n := of_decide_eq_true hb
    have st := pow_step f s n hn'
    have fs : 0 ≤ f * s := Int.mul_nonneg f0 s0
    have ss : 0 ≤ s * s := Int.mul_nonneg s0 s0
    refine q_ifAsg (v := .int (if n % 2 = 1 then f * s % 97 else f)) (b := decide (n % 2 = 1)) (et_is (by walk_at "evt") (by simp)) (fun h => ?_) (fun h => ?_) fun H5 e5 => ?_
    · rw [if_pos (of_decide_eq_true h)]
      walk_at "ev"
    · rw [if_neg (of_decide_eq_false h)]
      rfl
    refine q_asg (by walk_at "ev") fun H6 e6 => ?_
    refine s_asg (by walk_at "ev") fun H7 e7 => ?_
    refine ⟨(n / 2).toNat, by omega, n / 2, _, s * s % 97, rfl, by omega, ?_, ?_, by omega, by omega, rfl, (((e.trans e4).trans e5).trans e6).trans e7, ?_⟩
    · split <;> omega
    · split <;> omega
    · rw [← st]; exact hi
  · have hn' : n = 0 := by have := of_decide_eq_false hb; omega
    subst hn'
    refine s_ret (ev_var rfl) fun H5 e5 => ?_
    have ef : f = a ^ k.toNat % 97 := by
      rw [← hi]
      rw [show (0 : Int).toNat = 0 from rfl, Int.pow_zero]
      omega
    rw [ef]
    exact q H5 ((e.trans e4).trans e5)
section
variable {P : Program} {w : World} {K : PySem.W.Frag} {mg : Str → Option Value} {base : Heap}
theorem sc_power : FnScope ["a", "k", "found", "square"] ["a", "k"] (defScope s_power) := ⟨rfl, rfl, rfl, by decide +kernel, rfl, by decide +kernel, by decide +kernel⟩
theorem dr_power (T : Wd K mg) (c_look_sign : Cal P w K mg base 1 "look_sign" (sp_look_sign K) []) {f : Addr} {cdv : Value} {A : Around} {outer : List Env} {s : Shared} {H : Hp} {E : XK} (hr : Room 1 (A.deeper (envOfC "power" (defScope s_power) s.heap.objs.size f cdv))) :
    PSs (cxOf CX0 P w K mg base ["a", "k", "found", "square"] "power" (defScope s_power) f cdv A outer s H E).nox (defBody s_power) (t_power K) := by
  have nd := sc_power.nd
  exact (pss_cons (ps_expr (pe_c c_look_sign hr (by decide) rfl (pa_cons (pv 0) pa_nil)))
    (pss_cons (ps_set (i := 2) nd rfl (by first | exact Or.inl rfl | exact Or.inr rfl) pe_int)
    (pss_cons (ps_set (i := 3) nd rfl (by first | exact Or.inl rfl | exact Or.inr rfl) (pv 0))
    (pss_cons (ps_while PassesOwn.never (pt_cmpR op_gt (pv 1) pe_int (nomark _))
    (pss_cons (ps_if (pt_cmpR op_eq (pe_op op_mod (pv 1) pe_int) pe_int (nomark _)) (pss_one (ps_set (i := 2) nd rfl (by first | exact Or.inl rfl | exact Or.inr rfl) (pe_op op_mod (pe_op op_mul (pv 2) (pv 3)) (pe_gc rfl (T.int 24))))) pss_nil)
    (pss_cons (ps_set (i := 3) nd rfl (by first | exact Or.inl rfl | exact Or.inr rfl) (pe_op op_mod (pe_op op_mul (pv 3) (pv 3)) (pe_gc rfl (T.int 24))))
    (pss_one (ps_set (i := 1) nd rfl (by first | exact Or.inl rfl | exact Or.inr rfl) (pe_op op_fdiv (pv 1) pe_int))))))
    (pss_one (ps_ret (pv 2)))))))
theorem ok_power (T : Wd K mg) (c_look_sign : Cal P w K mg base 1 "look_sign" (sp_look_sign K) []) {f : Addr} {fd : FuncData} (F : FunD K ds_power.name ds_power.qual ds_power.params ds_power.body ds_power.scope [] [] f fd) : FnOk P w K mg base CX0 2 f fd ["a", "k"] (sp_power K) := by
  refine FunD.ok F sc_power (fun vs H Q E h => ?_) (fun cdv A outer s H vs Q E hr h => ⟨t_power K, PSs.nox (dr_power T c_look_sign hr), pure_power T vs H Q E h⟩)
  obtain ⟨_, _, e, _⟩ := h
  rw [e]
  all_goals rfl
end
theorem ev_power {σ : L2.St} {H : Hp} {te tf : TE} {a k : Int} (h : Ev te σ H (.int a)) (h' : Ev tf σ H (.int k)) (h0 : 0 ≤ a ∧ a < 97 ∧ 0 ≤ k) : Ev (tCall (sp_power K) [] E0 (tCons te (tCons tf tNil))) σ H (.int (a ^ k.toNat % 97)) :=
  ev_call (ea_cons h (ea_cons h' ea_nil)) fun _ _ _ q _ => ⟨a, k, rfl, h0.1, h0.2.1, h0.2.2, q⟩
/-! inverse -/
def inv97 (a : Int) : Int := a ^ 95 % 97
def sp_inverse (_ : PySem.W.Frag) : Sp := fun vs H Q _ => ∃ (a : Int), vs = [.int a] ∧ 0 < a ∧ a < 97 ∧ RetV (.int (inv97 a)) H Q
/-- inverse -/
def t_inverse (K : PySem.W.Frag) : TS :=
    (tSeq (tDrop (tCall (sp_look_sign K) [] C8.E0 (tCons (tVar 0) tNil)))
    (tSeq (tIfS (tTest (tOp rEq (tVar 0) (tC (.int 0)))) tNever tNext)
    (tRet (tCall (sp_power K) [] C8.E0 (tCons (tVar 0) (tCons (tOp rSubI (tC (.int 97)) (tC (.int 2))) tNil))))))
theorem pure_inverse (_ : Wd K mg) (vs : List V) (H : Hp) (Q : VK) (E : XK) (h : sp_inverse K vs H Q E) : t_inverse K { nx := fun _ H' => Q .non H', rt := Q } (start ["a"] vs) H := by
  obtain ⟨a, rfl, h0, h1, q⟩ := h
  refine q_drop (ev_look_sign (ev_var rfl) ⟨by omega, h1⟩) fun H1 e1 => ?_
  refine q_when (b := false) (et_is (by walk_at "evt") (by walk_at "bool")) (fun h => nomatch h) fun _ H2 e2 => ?_
  refine s_ret (ev_power (k := 95) (ev_var rfl) (ev_is (v := .int (97 - 2)) (by walk_at "ev") rfl) ⟨by omega, h1, by omega⟩) fun H3 e3 => q H3 ((e1.trans e2).trans e3)
section
variable {P : Program} {w : World} {K : PySem.W.Frag} {mg : Str → Option Value} {base : Heap}
theorem sc_inverse : FnScope ["a"] ["a"] (defScope s_inverse) := ⟨rfl, rfl, rfl, by decide +kernel, rfl, by decide +kernel, by decide +kernel⟩
theorem dr_inverse (T : Wd K mg) (c_look_sign : Cal P w K mg base 1 "look_sign" (sp_look_sign K) []) (c_power : Cal P w K mg base 2 "power" (sp_power K) []) {f : Addr} {cdv : Value} {A : Around} {outer : List Env} {s : Shared} {H : Hp} {E : XK} (hr : Room 2 (A.deeper (envOfC "inverse" (defScope s_inverse) s.heap.objs.size f cdv))) :
    PSs (cxOf CX0 P w K mg base ["a"] "inverse" (defScope s_inverse) f cdv A outer s H E).nox (defBody s_inverse) (t_inverse K) := by
  have nd := sc_inverse.nd
  exact (pss_cons (ps_expr (pe_c c_look_sign hr (by decide) rfl (pa_cons (pv 0) pa_nil)))
    (pss_cons (ps_if (pt_cmpR op_eq (pv 0) pe_int (nomark _)) pss_never pss_nil)
    (pss_one (ps_ret (pe_c c_power hr (by decide) rfl (pa_cons (pv 0) (pa_cons (pe_op op_sub (pe_gc rfl (T.int 24)) pe_int) pa_nil)))))))
theorem ok_inverse (T : Wd K mg) (c_look_sign : Cal P w K mg base 1 "look_sign" (sp_look_sign K) []) (c_power : Cal P w K mg base 2 "power" (sp_power K) []) {f : Addr} {fd : FuncData} (F : FunD K ds_inverse.name ds_inverse.qual ds_inverse.params ds_inverse.body ds_inverse.scope [] [] f fd) : FnOk P w K mg base CX0 3 f fd ["a"] (sp_inverse K) := by
  refine FunD.ok F sc_inverse (fun vs H Q E h => ?_) (fun cdv A outer s H vs Q E hr h => ⟨t_inverse K, PSs.nox (dr_inverse T c_look_sign c_power hr), pure_inverse T vs H Q E h⟩)
  obtain ⟨_, e, _⟩ := h
  rw [e]
  all_goals rfl
end
theorem ev_inverse {σ : L2.St} {H : Hp} {te : TE} {a : Int} (h : Ev te σ H (.int a)) (h0 : 0 < a ∧ a < 97) : Ev (tCall (sp_inverse K) [] E0 (tCons te tNil)) σ H (.int (inv97 a)) :=
  ev_call (ea_cons h ea_nil) fun _ _ _ q _ => ⟨a, rfl, h0.1, h0.2, q⟩
end

end K85
end
section
set_option maxHeartbeats 400000
namespace K85
open PySem PySem.Spec PyProof.Rows
open L2 hiding CX0 E0 pass0
open C8 Evl
/-! ### tactics -/
local macro_rules | `(tactic| walk_at "side") => `(tactic| first | omega | assumption | rfl | decide)
local macro_rules | `(tactic| walk_at "at") => `(tactic| first | (refine at_int ?_ ?_ <;> first | omega | (simp; omega)) | assumption)
local macro_rules | `(tactic| walk_at "rv") => `(tactic| first
  | with_reducible exact rv_I0
  | ((with_reducible apply rv_eq); rfl)
  | ((with_reducible apply rv_ne); rfl)
  | ((with_reducible apply rv_mod); first | omega | decide)
  | ((with_reducible apply rv_mul); omega)
  | ((with_reducible apply rv_div); omega)
  | ((with_reducible apply rv_ixL); · assumption
     · walk_at "at")
  | ((with_reducible apply rv_ixT); · assumption
     · walk_at "at"))
local macro_rules | `(tactic| walk_at "ev") => `(tactic| first
  | ((with_reducible apply ev_var); rfl)
  | with_reducible exact ev_c
  | ((with_reducible apply ev_isN); walk_at "ev")
  | ((with_reducible apply ev_notN); walk_at "ev")
  | ((with_reducible apply ev_op); · walk_at "ev"
     · walk_at "ev"
     · walk_at "rv")
  | ((with_reducible apply ev_un); · walk_at "ev"
     · with_reducible exact ru_neg)
  | ((with_reducible apply ev_chain); · walk_at "ev"
     · walk_at "ev"
     · walk_at "rv"
     · intro _; walk_at "ev"
     · intro _; walk_at "rv")
  | ((with_reducible apply ev_len); · walk_at "ev"
     · assumption)
  | ((with_reducible apply ev_lenT); · walk_at "ev"
     · assumption)
  | ((with_reducible apply ev_andV); · walk_at "ev"
     · intro _; walk_at "ev")
  | with_reducible assumption)
local macro_rules | `(tactic| walk_at "evt") => `(tactic| first
  | ((with_reducible apply et_or); · walk_at "evt"
     · intro _; walk_at "evt")
  | ((with_reducible apply et_and); · walk_at "evt"
     · intro _; walk_at "evt")
  | ((with_reducible apply et_not); walk_at "evt")
  | ((with_reducible apply et_test); walk_at "ev")
  | ((with_reducible apply et_B); walk_at "ev")
  | with_reducible assumption)
local macro_rules | `(tactic| walk_at "bool") => `(tactic| first | rfl | (simp; done) | (simp; omega) | (simp; intros; omega) | grind)
section
variable {K : PySem.W.Frag} {mg : Str → Option Value}
/-! ### cells -/
theorem pow_sig (k : Nat) : 0 ≤ powL.getD k 0 ∧ powL.getD k 0 < 97 := getD_mem_or (P := fun n => 0 ≤ n ∧ n < 97) (by decide) (by decide) k
theorem pow_len : powL.length = 96 := by decide
def Sigs (ns : List Int) : Prop := ∀ n ∈ ns, 0 ≤ n ∧ n < 97
theorem Sigs.getD {ns : List Int} (h : Sigs ns) (k : Nat) : 0 ≤ ns.getD k 0 ∧ ns.getD k 0 < 97 := getD_mem_or h (by decide) k
def sp_look_signs (K : PySem.W.Frag) : Sp := fun vs H Q _ => ∃ (a : Addr) (ns : List Int) (many : Int), vs = [.ref a, .int many] ∧ SqL K H a (ns.map V.int) ∧ (ns.length : Int) = many ∧ Sigs ns ∧ RetV .non H Q
/-- look_signs -/
def t_look_signs (K : PySem.W.Frag) : TS :=
    (tSeq (tIfS (tTest (tOp rNe (tCB (Evl.rLenS K) (tCons (tVar 0) tNil)) (tVar 1))) tNever tNext)
    (tFor (iList K (tVar 0)) (gName 2)
    (tIfS (tOr (tTest (tOp rLtI (tVar 2) (tC (.int 0)))) (tTest (tOp rGtI (tVar 2) (tC (.int 96))))) tNever tNext)))
theorem pure_look_signs (_ : Wd K mg) (vs : List V) (H : Hp) (Q : VK) (E : XK) (h : sp_look_signs K vs H Q E) : t_look_signs K { nx := fun _ H' => Q .non H', rt := Q } (start ["signs", "many", "sign"] vs) H := by
  obtain ⟨a, ns, many, rfl, hs, hl, hn, k⟩ := h
  refine q_when (b := false) (et_is (by walk_at "evt") (by simp [hl])) (fun h => nomatch h) fun _ H1 e1 => ?_
  have hs := ex_l e1 hs
  refine s_forLn (ev_var rfl) hs (fun i σ' H' => Ex H1 H' ∧ ∃ o, σ' = [some (.ref a), some (.int many), o]) (fun H2 e2 => ⟨e2, none, rfl⟩) (fun i σ' H' _ p => ex_l p.1 hs) ?_ (fun σ' H' p => k H' (e1.trans p.1))
  rintro i x σ' H' hx ⟨e, o, rfl⟩
  rw [List.getElem?_map, Option.map_eq_some_iff] at hx
  obtain ⟨n, hx, rfl⟩ := hx
  have hn := hn n (List.mem_of_getElem? hx)
  exact s_when (b := false) (et_is (by walk_at "evt") (by walk_at "bool")) (fun h => nomatch h) fun _ H2 e2 => ⟨e.trans e2, _, rfl⟩
section
variable {P : Program} {w : World} {K : PySem.W.Frag} {mg : Str → Option Value} {base : Heap}
theorem sc_look_signs : FnScope ["signs", "many", "sign"] ["signs", "many"] (defScope s_look_signs) := ⟨rfl, rfl, rfl, by decide +kernel, rfl, by decide +kernel, by decide +kernel⟩
theorem dr_look_signs (T : Wd K mg) {f : Addr} {cdv : Value} {A : Around} {outer : List Env} {s : Shared} {H : Hp} {E : XK} (hr : Room 0 (A.deeper (envOfC "look_signs" (defScope s_look_signs) s.heap.objs.size f cdv))) :
    PSs (cxOf CX0 P w K mg base ["signs", "many", "sign"] "look_signs" (defScope s_look_signs) f cdv A outer s H E).nox (defBody s_look_signs) (t_look_signs K) := by
  have nd := sc_look_signs.nd
  exact (pss_cons (ps_if (pt_cmpR op_ne (pe_callB call_len_seq (by rfl) (T.free 97) (by decide +kernel) (pa_cons (pv 0) pa_nil)) (pv 1) (nomark _)) pss_never pss_nil)
    (pss_one (ps_for PassesOwn.never rfl (pi_list (pv 0)) (pg_name (i := 2) nd rfl (by first | exact Or.inl rfl | exact Or.inr rfl))
    (pss_one (ps_if (PW.pt (pw_or (pt_cmpR op_lt (pv 2) pe_int (nomark _)) (pw_or1 (pt_cmpR op_gt (pv 2) pe_int (nomark _))))) pss_never pss_nil)))))
theorem ok_look_signs (T : Wd K mg) {f : Addr} {fd : FuncData} (F : FunD K ds_look_signs.name ds_look_signs.qual ds_look_signs.params ds_look_signs.body ds_look_signs.scope [] [] f fd) : FnOk P w K mg base CX0 1 f fd ["signs", "many"] (sp_look_signs K) := by
  refine FunD.ok F sc_look_signs (fun vs H Q E h => ?_) (fun cdv A outer s H vs Q E hr h => ⟨t_look_signs K, PSs.nox (dr_look_signs T  hr), pure_look_signs T vs H Q E h⟩)
  obtain ⟨_, _, _, e, _⟩ := h
  rw [e]
  all_goals rfl
end
theorem ev_look_signs {σ : L2.St} {H : Hp} {te tf : TE} {a : Addr} {ns : List Int} {m : Int} (h : Ev te σ H (.ref a)) (h' : Ev tf σ H (.int m)) (hs : SqL K H a (ns.map V.int)) (hl : (ns.length : Int) = m) (hn : Sigs ns) : Ev (tCall (sp_look_signs K) [] E0 (tCons te (tCons tf tNil))) σ H .non :=
  ev_call (ea_cons h (ea_cons h' ea_nil)) fun _ e _ q _ => ⟨a, ns, m, rfl, ex_l e hs, hl, hn, q⟩
/-! the six sums -/
def wsum (ns : List Int) (j : Int) : Int := ((List.range ns.length).map fun i : Nat => ns.getD (i : Int).toNat 0 * powL.getD ((i : Int) * j % 96).toNat 0).sum % 97
def sumsM (ns : List Int) : List Int := (List.range 6).map fun j : Nat => wsum ns (1 + (j : Int))
def sp_sums_of (K : PySem.W.Frag) : Sp := fun vs H Q _ => ∃ (a : Addr) (ns : List Int), vs = [.ref a] ∧ SqL K H a (ns.map V.int) ∧ ns.length ≤ 1000 ∧ Sigs ns ∧ RetL ((sumsM ns).map V.int) H Q
/-- sums_of -/
def t_sums_of (K : PySem.W.Frag) : TS :=
    (tRet (tLc (iRng2 (tCons (tC (.int 1)) (tCons (tOp rAddI (tC (.int 6)) (tC (.int 1))) tNil))) (gName 1) tYes (tOp rModI (tCB (rSum K) (tCons (tLc (iRng1 (tCons (tCB (Evl.rLenS K) (tCons (tVar 0) tNil)) tNil)) (gName 2) tYes (tOp rMulI (tOp (rIxL K) (tVar 0) (tVar 2)) (tOp (rIxL K) (tC (.ref (He.ga K "POWERS"))) (tOp rModI (tOp rMulI (tVar 2) (tVar 1)) (tC (.int 96))))) [2]) tNil)) (tC (.int 97))) [1]))
theorem pure_sums_of (T : Wd K mg) (vs : List V) (H : Hp) (Q : VK) (E : XK) (h : sp_sums_of K vs H Q E) : t_sums_of K { nx := fun _ H' => Q .non H', rt := Q } (start ["signs", "j", "i"] vs) H := by
  obtain ⟨a, ns, rfl, hs, hl, hn, k⟩ := h
  refine s_retL (xs := (sumsM ns).map V.int) (el_mapR2 (lo := 1) (n := 6 + 1) (fun j : Nat => wsum ns (1 + (j : Int))) (ea_cons ev_c (ea_cons (by walk_at "ev") ea_nil)) (by decide) (fun _ => rfl) fun j H1 e1 hj => ?_) fun p H1 hp e h => k p H1 hp e h
  have hs := ex_l e1 hs
  refine ev_op (ev_sum (el_mapR1 (n := (ns.length : Int)) (fun i : Nat => ns.getD (i : Int).toNat 0 * powL.getD ((i : Int) * (1 + (j : Int)) % 96).toNat 0) (ea_cons (ev_is (ev_len (ev_var rfl) hs) (by rw [List.length_map])) ea_nil) (by omega) (fun _ => rfl) fun i H2 e2 hi => ?_)) ev_c (rv_mod (by decide))
  have hs := ex_l e2 hs
  have hp := T.pow H2
  have h1 := hn.getD (i : Int).toNat
  have h3 := pow_len
  refine ev_op (ev_op (ev_var rfl) (ev_var rfl) (rv_ixL hs (at_int (by omega) hi))) (ev_op ev_c (ev_op (ev_op (ev_var rfl) (ev_var rfl) (rv_mul (by omega))) ev_c (rv_mod (by decide))) (rv_ixL hp (at_int (by omega) (by omega)))) (rv_mul (by omega))
section
variable {P : Program} {w : World} {K : PySem.W.Frag} {mg : Str → Option Value} {base : Heap}
theorem sc_sums_of : FnScope ["signs", "j", "i"] ["signs"] (defScope s_sums_of) := ⟨rfl, rfl, rfl, by decide +kernel, rfl, by decide +kernel, by decide +kernel⟩
theorem dr_sums_of (T : Wd K mg) {f : Addr} {cdv : Value} {A : Around} {outer : List Env} {s : Shared} {H : Hp} {E : XK} (hr : Room 0 (A.deeper (envOfC "sums_of" (defScope s_sums_of) s.heap.objs.size f cdv))) :
    PSs (cxOf CX0 P w K mg base ["signs", "j", "i"] "sums_of" (defScope s_sums_of) f cdv A outer s H E).nox (defBody s_sums_of) (t_sums_of K) := by
  have nd := sc_sums_of.nd
  exact (pss_one (ps_ret (pe_lc (own := [("j", 1)]) (g := (gName 1)) (tt := tYes) rfl nd (pi_range2 (by rfl) (T.free 101) (pa_cons pe_int (pa_cons (pe_op op_add (pe_gc rfl (T.int 19)) pe_int) pa_nil))) (blkOk_by (by kernel_rfl)) (fun _ _ _ _ _ => (pg_name (i := 1) nd rfl (by first | exact Or.inl rfl | exact Or.inr rfl))) (fun _ _ _ _ _ => pts_nil) (fun _ _ _ _ _ => (pe_op op_mod (pe_callB (cr_sum rfl) (by rfl) (T.free 105) (by decide +kernel) (pa_cons (pe_lc (own := [("i", 2)]) (g := (gName 2)) (tt := tYes) rfl nd (pi_range1 (by rfl) (T.free 101) (pa_cons (pe_callB call_len_seq (by rfl) (T.free 97) (by decide +kernel) (pa_cons (pv 0) pa_nil)) pa_nil)) (blkOk_by (by kernel_rfl)) (fun _ _ _ _ _ => (pg_name (i := 2) nd rfl (by first | exact Or.inl rfl | exact Or.inr rfl))) (fun _ _ _ _ _ => pts_nil) (fun _ _ _ _ _ => (pe_op op_mul (pe_ix ix_list (pv 0) (pv 2) (fun _ _ => rfl)) (pe_ix ix_list (pe_gc rfl (T.glo 15)) (pe_op op_mod (pe_op op_mul (pv 2) (pv 1)) pe_int) (fun _ _ => rfl))))) pa_nil)) pe_int)))))
theorem ok_sums_of (T : Wd K mg) {f : Addr} {fd : FuncData} (F : FunD K ds_sums_of.name ds_sums_of.qual ds_sums_of.params ds_sums_of.body ds_sums_of.scope [] [] f fd) : FnOk P w K mg base CX0 1 f fd ["signs"] (sp_sums_of K) := by
  refine FunD.ok F sc_sums_of (fun vs H Q E h => ?_) (fun cdv A outer s H vs Q E hr h => ⟨t_sums_of K, PSs.nox (dr_sums_of T  hr), pure_sums_of T vs H Q E h⟩)
  obtain ⟨_, _, e, _⟩ := h
  rw [e]
  all_goals rfl
end
theorem el_sums_of {σ : L2.St} {H : Hp} {te : TE} {a : Addr} {ns : List Int} (h : Ev te σ H (.ref a)) (hs : SqL K H a (ns.map V.int)) (hl : ns.length ≤ 1000) (hn : Sigs ns) : EvL (tCall (sp_sums_of K) [] E0 (tCons te tNil)) σ H ((sumsM ns).map V.int) :=
  el_call (ea_cons h ea_nil) fun _ e _ q _ => ⟨a, ns, rfl, ex_l e hs, hl, hn, q⟩
/-! sealing -/
def sealM (ns : List Int) : List Int := ns ++ (List.range 6).map fun k : Nat => ((List.range 18).map fun i : Nat => ns.getD (i : Int).toNat 0 * (chkL.getD i []).getD (k : Int).toNat 0).sum % 97
def sp_sealed (K : PySem.W.Frag) : Sp := fun vs H Q _ => ∃ (a : Addr) (ns : List Int), vs = [.ref a] ∧ SqL K H a (ns.map V.int) ∧ ns.length = 18 ∧ Sigs ns ∧ RetL ((sealM ns).map V.int) H Q
/-- sealed -/
def t_sealed (K : PySem.W.Frag) : TS :=
    (tSeq (tDrop (tCall (sp_look_signs K) [] C8.E0 (tCons (tVar 0) (tCons (tC (.int 18)) tNil))))
    (tRet (tOp (rCatS K) (tCB (Evl.rListS K) (tCons (tVar 0) tNil)) (tLc (iRng1 (tCons (tC (.int 6)) tNil)) (gName 1) tYes (tOp rModI (tCB (rSum K) (tCons (tLc (iRng1 (tCons (tC (.int 18)) tNil)) (gName 2) tYes (tOp rMulI (tOp (rIxL K) (tVar 0) (tVar 2)) (tOp (rIxT K) (tOp (rIxL K) (tC (.ref (He.ga K "CHECKS"))) (tVar 2)) (tVar 1))) [2]) tNil)) (tC (.int 97))) [1]))))
theorem chk_len : ∀ i, i < 18 → (chkL.getD i []).length = 6 := by decide
theorem pure_sealed (T : Wd K mg) (vs : List V) (H : Hp) (Q : VK) (E : XK) (h : sp_sealed K vs H Q E) : t_sealed K { nx := fun _ H' => Q .non H', rt := Q } (start ["signs", "k", "i"] vs) H := by
  obtain ⟨a, ns, rfl, hs, hl, hn, k⟩ := h
  refine q_drop (ev_look_signs (ns := ns) (ev_var rfl) ev_c hs (by omega) hn) fun H1 e1 => ?_
  have hs := ex_l e1 hs
  refine s_retL (xs := (sealM ns).map V.int) ?_ fun p H2 hp e h => k p H2 (fresh_back e1 hp) (e1.trans e) h
  refine el_is (el_cat (el_list (ev_var rfl) hs) (el_mapR1 (n := 6) (fun k : Nat => ((List.range 18).map fun i : Nat => ns.getD (i : Int).toNat 0 * (chkL.getD i []).getD (k : Int).toNat 0).sum % 97) (ea_cons ev_c ea_nil) (by decide) (fun _ => rfl) fun j H2 e2 hj => ?_) (by simp; omega)) (by unfold sealM; rw [List.map_append]; rfl)
  have hs := ex_l e2 hs
  refine ev_op (ev_sum (el_mapR1 (n := 18) (fun i : Nat => ns.getD (i : Int).toNat 0 * (chkL.getD i []).getD (j : Int).toNat 0) (ea_cons ev_c ea_nil) (by decide) (fun _ => rfl) fun i H3 e3 hi => ?_)) ev_c (rv_mod (by decide))
  have hs := ex_l e3 hs
  have h1 := hn.getD (i : Int).toNat
  have hi' : i < 18 := by omega
  refine ev_op (ev_op (ev_var rfl) (ev_var rfl) (rv_ixL hs (at_int (by omega) (by omega)))) (ev_op (ev_op ev_c (ev_var rfl) (rv_ixL (T.chk H3) (at_nat (v := .ref (chkAt K i)) (by omega) ?_))) (ev_var rfl) (rv_ixT (T.chkRow H3 hi') (at_int (by omega) (by rw [chk_len i hi']; omega)))) (rv_mul (by omega))
  rw [Int.toNat_natCast, List.getElem?_map, List.getElem?_range hi']
  rfl
section
variable {P : Program} {w : World} {K : PySem.W.Frag} {mg : Str → Option Value} {base : Heap}
theorem sc_sealed : FnScope ["signs", "k", "i"] ["signs"] (defScope s_sealed) := ⟨rfl, rfl, rfl, by decide +kernel, rfl, by decide +kernel, by decide +kernel⟩
theorem dr_sealed (T : Wd K mg) (c_look_signs : Cal P w K mg base 1 "look_signs" (sp_look_signs K) []) {f : Addr} {cdv : Value} {A : Around} {outer : List Env} {s : Shared} {H : Hp} {E : XK} (hr : Room 1 (A.deeper (envOfC "sealed" (defScope s_sealed) s.heap.objs.size f cdv))) :
    PSs (cxOf CX0 P w K mg base ["signs", "k", "i"] "sealed" (defScope s_sealed) f cdv A outer s H E).nox (defBody s_sealed) (t_sealed K) := by
  have nd := sc_sealed.nd
  exact (pss_cons (ps_expr (pe_c c_look_signs hr (by decide) rfl (pa_cons (pv 0) (pa_cons (pe_gc rfl (T.int 18)) pa_nil))))
    (pss_one (ps_ret (pe_op op_catS (pe_callTy call_list_of (by rfl) (T.free 98) (by decide +kernel) (pa_cons (pv 0) pa_nil)) (pe_lc (own := [("k", 1)]) (g := (gName 1)) (tt := tYes) rfl nd (pi_range1 (by rfl) (T.free 101) (pa_cons (pe_gc rfl (T.int 19)) pa_nil)) (blkOk_by (by kernel_rfl)) (fun _ _ _ _ _ => (pg_name (i := 1) nd rfl (by first | exact Or.inl rfl | exact Or.inr rfl))) (fun _ _ _ _ _ => pts_nil) (fun _ _ _ _ _ => (pe_op op_mod (pe_callB (cr_sum rfl) (by rfl) (T.free 105) (by decide +kernel) (pa_cons (pe_lc (own := [("i", 2)]) (g := (gName 2)) (tt := tYes) rfl nd (pi_range1 (by rfl) (T.free 101) (pa_cons (pe_gc rfl (T.int 18)) pa_nil)) (blkOk_by (by kernel_rfl)) (fun _ _ _ _ _ => (pg_name (i := 2) nd rfl (by first | exact Or.inl rfl | exact Or.inr rfl))) (fun _ _ _ _ _ => pts_nil) (fun _ _ _ _ _ => (pe_op op_mul (pe_ix ix_list (pv 0) (pv 2) (fun _ _ => rfl)) (pe_ix ix_tup (pe_ix ix_list (pe_gc rfl (T.glo 16)) (pv 2) (fun _ _ => rfl)) (pv 1) (fun _ _ => rfl))))) pa_nil)) pe_int)))))))
theorem ok_sealed (T : Wd K mg) (c_look_signs : Cal P w K mg base 1 "look_signs" (sp_look_signs K) []) {f : Addr} {fd : FuncData} (F : FunD K ds_sealed.name ds_sealed.qual ds_sealed.params ds_sealed.body ds_sealed.scope [] [] f fd) : FnOk P w K mg base CX0 2 f fd ["signs"] (sp_sealed K) := by
  refine FunD.ok F sc_sealed (fun vs H Q E h => ?_) (fun cdv A outer s H vs Q E hr h => ⟨t_sealed K, PSs.nox (dr_sealed T c_look_signs hr), pure_sealed T vs H Q E h⟩)
  obtain ⟨_, _, e, _⟩ := h
  rw [e]
  all_goals rfl
end
def sp_troubles (K : PySem.W.Frag) : Sp := fun vs H Q _ => ∃ (a : Addr) (ns : List Int), vs = [.ref a] ∧ SqL K H a (ns.map V.int) ∧ ns.length = 24 ∧ Sigs ns ∧ RetL ((sumsM ns).map V.int) H Q
/-- troubles -/
def t_troubles (K : PySem.W.Frag) : TS :=
    (tSeq (tDrop (tCall (sp_look_signs K) [] C8.E0 (tCons (tVar 0) (tCons (tC (.int 24)) tNil))))
    (tRet (tCall (sp_sums_of K) [] C8.E0 (tCons (tVar 0) tNil))))
theorem pure_troubles (T : Wd K mg) (vs : List V) (H : Hp) (Q : VK) (E : XK) (h : sp_troubles K vs H Q E) : t_troubles K { nx := fun _ H' => Q .non H', rt := Q } (start ["cell"] vs) H := by
  obtain ⟨a, ns, rfl, hs, hl, hn, k⟩ := h
  refine q_drop (ev_look_signs (ns := ns) (ev_var rfl) ev_c hs (by omega) hn) fun H1 e1 => ?_
  exact s_retL (el_sums_of (ev_var rfl) (ex_l e1 hs) (by omega) hn) fun p H2 hp e h => k p H2 (fresh_back e1 hp) (e1.trans e) h
section
variable {P : Program} {w : World} {K : PySem.W.Frag} {mg : Str → Option Value} {base : Heap}
theorem sc_troubles : FnScope ["cell"] ["cell"] (defScope s_troubles) := ⟨rfl, rfl, rfl, by decide +kernel, rfl, by decide +kernel, by decide +kernel⟩
theorem dr_troubles (T : Wd K mg) (c_look_signs : Cal P w K mg base 1 "look_signs" (sp_look_signs K) []) (c_sums_of : Cal P w K mg base 1 "sums_of" (sp_sums_of K) []) {f : Addr} {cdv : Value} {A : Around} {outer : List Env} {s : Shared} {H : Hp} {E : XK} (hr : Room 1 (A.deeper (envOfC "troubles" (defScope s_troubles) s.heap.objs.size f cdv))) :
    PSs (cxOf CX0 P w K mg base ["cell"] "troubles" (defScope s_troubles) f cdv A outer s H E).nox (defBody s_troubles) (t_troubles K) := by
  have nd := sc_troubles.nd
  exact (pss_cons (ps_expr (pe_c c_look_signs hr (by decide) rfl (pa_cons (pv 0) (pa_cons (pe_gc rfl (T.int 17)) pa_nil))))
    (pss_one (ps_ret (pe_c c_sums_of hr (by decide) rfl (pa_cons (pv 0) pa_nil)))))
theorem ok_troubles (T : Wd K mg) (c_look_signs : Cal P w K mg base 1 "look_signs" (sp_look_signs K) []) (c_sums_of : Cal P w K mg base 1 "sums_of" (sp_sums_of K) []) {f : Addr} {fd : FuncData} (F : FunD K ds_troubles.name ds_troubles.qual ds_troubles.params ds_troubles.body ds_troubles.scope [] [] f fd) : FnOk P w K mg base CX0 2 f fd ["cell"] (sp_troubles K) := by
  refine FunD.ok F sc_troubles (fun vs H Q E h => ?_) (fun cdv A outer s H vs Q E hr h => ⟨t_troubles K, PSs.nox (dr_troubles T c_look_signs c_sums_of hr), pure_troubles T vs H Q E h⟩)
  obtain ⟨_, _, e, _⟩ := h
  rw [e]
  all_goals rfl
end
theorem el_sealed {σ : L2.St} {H : Hp} {te : TE} {a : Addr} {ns : List Int} (h : Ev te σ H (.ref a)) (hs : SqL K H a (ns.map V.int)) (hl : ns.length = 18) (hn : Sigs ns) : EvL (tCall (sp_sealed K) [] E0 (tCons te tNil)) σ H ((sealM ns).map V.int) :=
  el_call (ea_cons h ea_nil) fun _ e _ q _ => ⟨a, ns, rfl, ex_l e hs, hl, hn, q⟩
theorem el_troubles {σ : L2.St} {H : Hp} {te : TE} {a : Addr} {ns : List Int} (h : Ev te σ H (.ref a)) (hs : SqL K H a (ns.map V.int)) (hl : ns.length = 24) (hn : Sigs ns) : EvL (tCall (sp_troubles K) [] E0 (tCons te tNil)) σ H ((sumsM ns).map V.int) :=
  el_call (ea_cons h ea_nil) fun _ e _ q _ => ⟨a, ns, rfl, ex_l e hs, hl, hn, q⟩
end

end K85
end
section
set_option maxHeartbeats 400000
namespace K85
open PySem PySem.Spec PyProof.Rows
open L2 hiding CX0 E0 pass0
open C8 Evl
/-! ### tactics -/
local macro_rules | `(tactic| walk_at "side") => `(tactic| first | omega | assumption | rfl | decide)
local macro_rules | `(tactic| walk_at "at") => `(tactic| first | (refine at_int ?_ ?_ <;> first | omega | (simp; omega)) | assumption)
local macro_rules | `(tactic| walk_at "rv") => `(tactic| first
  | with_reducible exact rv_I0
  | ((with_reducible apply rv_eq); rfl)
  | ((with_reducible apply rv_ne); rfl)
  | ((with_reducible apply rv_mod); first | omega | decide)
  | ((with_reducible apply rv_mul); omega)
  | ((with_reducible apply rv_div); omega)
  | ((with_reducible apply rv_ixL); · assumption
     · walk_at "at")
  | ((with_reducible apply rv_ixT); · assumption
     · walk_at "at"))
local macro_rules | `(tactic| walk_at "ev") => `(tactic| first
  | ((with_reducible apply ev_var); rfl)
  | with_reducible exact ev_c
  | ((with_reducible apply ev_isN); walk_at "ev")
  | ((with_reducible apply ev_notN); walk_at "ev")
  | ((with_reducible apply ev_op); · walk_at "ev"
     · walk_at "ev"
     · walk_at "rv")
  | ((with_reducible apply ev_un); · walk_at "ev"
     · with_reducible exact ru_neg)
  | ((with_reducible apply ev_chain); · walk_at "ev"
     · walk_at "ev"
     · walk_at "rv"
     · intro _; walk_at "ev"
     · intro _; walk_at "rv")
  | ((with_reducible apply ev_len); · walk_at "ev"
     · assumption)
  | ((with_reducible apply ev_lenT); · walk_at "ev"
     · assumption)
  | ((with_reducible apply ev_andV); · walk_at "ev"
     · intro _; walk_at "ev")
  | with_reducible assumption)
local macro_rules | `(tactic| walk_at "evt") => `(tactic| first
  | ((with_reducible apply et_or); · walk_at "evt"
     · intro _; walk_at "evt")
  | ((with_reducible apply et_and); · walk_at "evt"
     · intro _; walk_at "evt")
  | ((with_reducible apply et_not); walk_at "evt")
  | ((with_reducible apply et_test); walk_at "ev")
  | ((with_reducible apply et_B); walk_at "ev")
  | with_reducible assumption)
local macro_rules | `(tactic| walk_at "bool") => `(tactic| first | rfl | (simp; done) | (simp; omega) | (simp; intros; omega) | grind)
section
variable {K : PySem.W.Frag} {mg : Str → Option Value}
theorem inv_nat : ∀ k : Nat, k < 97 → 0 < k → 0 < inv97 (k : Int) ∧ inv97 (k : Int) < 97 ∧ (k : Int) * inv97 (k : Int) % 97 = 1 := by decide +kernel
theorem inv_sig {a : Int} (h0 : 0 < a) (h1 : a < 97) : 0 < inv97 a ∧ inv97 a < 97 ∧ a * inv97 a % 97 = 1 := by
  have h := inv_nat a.toNat (by omega) (by omega)
  rw [Int.toNat_of_nonneg (by omega)] at h
  exact h
theorem nz_nat : ∀ x : Nat, x < 97 → ∀ y : Nat, y < 97 → x ≠ 0 → y ≠ 0 → x * y % 97 ≠ 0 := by decide +kernel
theorem nz_mul {a b : Int} (ha : a % 97 ≠ 0) (hb : b % 97 ≠ 0) : a * b % 97 ≠ 0 := by
  have h := nz_nat (a % 97).toNat (by omega) (b % 97).toNat (by omega) (by omega) (by omega)
  intro z
  apply h
  rw [Int.mul_emod] at z
  have e1 : ((a % 97).toNat : Int) = a % 97 := Int.toNat_of_nonneg (by omega)
  have e2 : ((b % 97).toNat : Int) = b % 97 := Int.toNat_of_nonneg (by omega)
  have : (((a % 97).toNat * (b % 97).toNat % 97 : Nat) : Int) = 0 := by
    rw [Int.natCast_emod, Int.natCast_mul, e1, e2]
    exact z
  omega
theorem sig_mod (a : Int) : 0 ≤ a % 97 ∧ a % 97 < 97 := by omega
/-! ### places -/
def placeM (x : Int) : Option Nat := (List.range 24).find? fun i => powL.getD i 0 == x
def placeV (x : Int) : V := match placeM x with
  | none => .non
  | some i => .int (i : Int)
theorem find_yes {p : Nat → Bool} : ∀ {n i : Nat}, i < n → p i = true → (∀ j, j < i → p j = false) → (List.range n).find? p = some i := by
  intro n i hi hp hn
  rw [List.find?_range_eq_some]
  exact ⟨hp, List.mem_range.mpr hi, fun j hj => by rw [hn j hj]; rfl⟩
theorem find_no {p : Nat → Bool} {n : Nat} (hn : ∀ j, j < n → p j = false) : (List.range n).find? p = none :=
  List.find?_eq_none.mpr fun x hx => by rw [hn x (List.mem_range.mp hx)]; exact Bool.false_ne_true
def sp_place_of (_ : PySem.W.Frag) : Sp := fun vs H Q _ => ∃ (x : Int), vs = [.int x] ∧ RetV (placeV x) H Q
/-- place_of -/
def t_place_of (K : PySem.W.Frag) : TS :=
    (tSeq (tFor (iRng1 (tCons (tC (.int 24)) tNil)) (gName 1)
    (tIfS (tTest (tOp rEq (tOp (rIxL K) (tC (.ref (He.ga K "POWERS"))) (tVar 1)) (tVar 0))) (tRet (tVar 1)) tNext))
    (tRet (tC .non)))
theorem pure_place_of (T : Wd K mg) (vs : List V) (H : Hp) (Q : VK) (E : XK) (h : sp_place_of K vs H Q E) : t_place_of K { nx := fun _ H' => Q .non H', rt := Q } (start ["x", "i"] vs) H := by
  obtain ⟨x, rfl, k⟩ := h
  refine q_forR1 (n := 24) (ea_cons ev_c ea_nil) (by decide) (fun i σ' H' => Ex H H' ∧ (∃ o, σ' = [some (.int x), o]) ∧ ∀ j, j < i → (powL.getD j 0 == x) = false) (fun H1 e => ⟨e, ⟨none, rfl⟩, fun j hj => by omega⟩) ?_ ?_
  · rintro i σ' H' hi ⟨e, ⟨o, rfl⟩, hno⟩
    have hp := T.pow H'
    have hl := pow_len
    have ev : Ev (tOp (rIxL K) (tC (.ref (He.ga K "POWERS"))) (tVar 1)) [some (.int x), some (.int (i : Int))] H' (.int (powL.getD i 0)) := ev_op ev_c (ev_var rfl) (rv_ixL hp (at_int (by omega) (by omega)))
    refine s_when (b := decide (powL.getD i 0 = x)) (et_is (et_test (ev_op ev (ev_var rfl) (rv_eq rfl))) (by simp)) (fun h H1 e1 => ?_) (fun h H1 e1 => ?_)
    · refine s_ret (ev_var rfl) fun H2 e2 => ?_
      have q := k H2 ((e.trans e1).trans e2)
      unfold placeV placeM at q
      rw [find_yes (i := i) (by omega) (by simpa using h) hno] at q
      exact q
    · refine ⟨e.trans e1, ⟨_, rfl⟩, fun j hj => ?_⟩
      by_cases hji : j < i
      · exact hno j hji
      · have : j = i := by omega
        subst this
        simpa using h
  · rintro σ' H' ⟨e, ⟨o, rfl⟩, hno⟩
    refine s_ret ev_c fun H2 e2 => ?_
    have q := k H2 (e.trans e2)
    unfold placeV placeM at q
    rw [find_no (n := 24) hno] at q
    exact q
section
variable {P : Program} {w : World} {K : PySem.W.Frag} {mg : Str → Option Value} {base : Heap}
theorem sc_place_of : FnScope ["x", "i"] ["x"] (defScope s_place_of) := ⟨rfl, rfl, rfl, by decide +kernel, rfl, by decide +kernel, by decide +kernel⟩
theorem dr_place_of (T : Wd K mg) {f : Addr} {cdv : Value} {A : Around} {outer : List Env} {s : Shared} {H : Hp} {E : XK} (hr : Room 0 (A.deeper (envOfC "place_of" (defScope s_place_of) s.heap.objs.size f cdv))) :
    PSs (cxOf CX0 P w K mg base ["x", "i"] "place_of" (defScope s_place_of) f cdv A outer s H E).nox (defBody s_place_of) (t_place_of K) := by
  have nd := sc_place_of.nd
  exact (pss_cons (ps_for PassesOwn.never rfl (pi_range1 (by rfl) (T.free 101) (pa_cons (pe_gc rfl (T.int 17)) pa_nil)) (pg_name (i := 1) nd rfl (by first | exact Or.inl rfl | exact Or.inr rfl))
    (pss_one (ps_if (pt_cmpR op_eq (pe_ix ix_list (pe_gc rfl (T.glo 15)) (pv 1) (fun _ _ => rfl)) (pv 0) (nomark _)) (pss_one (ps_ret (pv 1))) pss_nil)))
    (pss_one (ps_ret pe_non)))
theorem ok_place_of (T : Wd K mg) {f : Addr} {fd : FuncData} (F : FunD K ds_place_of.name ds_place_of.qual ds_place_of.params ds_place_of.body ds_place_of.scope [] [] f fd) : FnOk P w K mg base CX0 1 f fd ["x"] (sp_place_of K) := by
  refine FunD.ok F sc_place_of (fun vs H Q E h => ?_) (fun cdv A outer s H vs Q E hr h => ⟨t_place_of K, PSs.nox (dr_place_of T  hr), pure_place_of T vs H Q E h⟩)
  obtain ⟨_, e, _⟩ := h
  rw [e]
  all_goals rfl
end
theorem ev_place_of {σ : L2.St} {H : Hp} {te : TE} {x : Int} (h : Ev te σ H (.int x)) : Ev (tCall (sp_place_of K) [] E0 (tCons te tNil)) σ H (placeV x) :=
  ev_call (ea_cons h ea_nil) fun _ _ _ q _ => ⟨x, rfl, q⟩
/-! ### one sign turned -/
def pairD (p : Int × Int) : PyData := .tuple [.int p.1, .int p.2]
def oneM (f : List Int) : Option (List (Int × Int)) :=
  if 0 ∈ f then none else
  let x := f.getD 1 0 * inv97 (f.getD 0 0) % 97
  if (List.range 5).all (fun j => f.getD (j + 1) 0 == f.getD j 0 * x % 97) then
    match placeM x with
    | none => none
    | some p => some [((p : Int), f.getD 0 0 * inv97 x % 97)]
  else none
def sp_one_turned (K : PySem.W.Frag) : Sp := fun vs H Q _ => ∃ (a : Addr) (f : List Int), vs = [.ref a] ∧ SqL K H a (f.map V.int) ∧ f.length = 6 ∧ Sigs f ∧ RetO K ((oneM f).map (·.map pairD)) H Q
/-- one_turned -/
def t_one_turned (K : PySem.W.Frag) : TS :=
    (tSeq (tIfS (tTest (tOp (rIn K false) (tC (.int 0)) (tVar 0))) (tRet (tC .non)) tNext)
    (tSeq (tAsg (tOp rModI (tOp rMulI (tOp (rIxL K) (tVar 0) (tC (.int 1))) (tCall (sp_inverse K) [] C8.E0 (tCons (tOp (rIxL K) (tVar 0) (tC (.int 0))) tNil))) (tC (.int 97))) (gName 1))
    (tSeq (tFor (iRng2 (tCons (tC (.int 1)) (tCons (tCB (Evl.rLenS K) (tCons (tVar 0) tNil)) tNil))) (gName 2)
    (tIfS (tTest (tOp rNe (tOp (rIxL K) (tVar 0) (tVar 2)) (tOp rModI (tOp rMulI (tOp (rIxL K) (tVar 0) (tOp rSubI (tVar 2) (tC (.int 1)))) (tVar 1)) (tC (.int 97))))) (tRet (tC .non)) tNext))
    (tSeq (tAsg (tCall (sp_place_of K) [] C8.E0 (tCons (tVar 1) tNil)) (gName 3))
    (tSeq (tIfS (tTest (tOp rIsN (tVar 3) (tC .non))) (tRet (tC .non)) tNext)
    (tRet (tLst (tCons (tTup (tCons (tVar 3) (tCons (tOp rModI (tOp rMulI (tOp (rIxL K) (tVar 0) (tC (.int 0))) (tCall (sp_inverse K) [] C8.E0 (tCons (tVar 1) tNil))) (tC (.int 97))) tNil))) tNil))))))))
theorem at_lit {ns : List Int} {k : Nat} (h : k < ns.length) : atI (ns.map V.int) (k : Int) = some (.int (ns.getD k 0)) := by
  have q := at_int (ns := ns) (i := (k : Int)) (by omega) (by omega)
  rw [Int.toNat_natCast] at q
  exact q
theorem pure_one_turned (T : Wd K mg) (vs : List V) (H : Hp) (Q : VK) (E : XK) (h : sp_one_turned K vs H Q E) : t_one_turned K { nx := fun _ H' => Q .non H', rt := Q } (start ["found", "x", "j", "place"] vs) H := by
  obtain ⟨a, f, rfl, hs, hl, hn, k⟩ := h
  have g0 := hn.getD 0
  have g1 := hn.getD 1
  refine q_when (b := decide (0 ∈ f)) (et_test (ev_inInts ev_c (ev_var rfl) hs)) (fun h H1 e1 => s_ret ev_c fun H2 e2 => ?_) (fun h H1 e1 => ?_)
  · have q := k
    unfold RetO oneM at q
    rw [if_pos (of_decide_eq_true h)] at q
    exact q H2 (e1.trans e2)
  have h0 : ¬ 0 ∈ f := of_decide_eq_false h
  have nz : ∀ k, k < 6 → f.getD k 0 ≠ 0 := fun k hk z => h0 (by
    rw [List.getD_eq_getElem?_getD, List.getElem?_eq_getElem (by omega)] at z
    rw [← z]
    exact List.getElem_mem _)
  have hs := ex_l e1 hs
  have z0 := nz 0 (by omega)
  have z1 := nz 1 (by omega)
  have iv := inv_sig (a := f.getD 0 0) (by omega) (by omega)
  have xm := sig_mod (f.getD 1 0 * inv97 (f.getD 0 0))
  have xz : f.getD 1 0 * inv97 (f.getD 0 0) % 97 ≠ 0 := nz_mul (by omega) (by omega)
  refine q_asg (v := .int (f.getD 1 0 * inv97 (f.getD 0 0) % 97)) (ev_op (ev_op (ev_op (ev_var rfl) ev_c (rv_ixL hs (at_lit (k := 1) (by omega)))) (ev_inverse (ev_op (ev_var rfl) ev_c (rv_ixL hs (at_lit (k := 0) (by omega)))) (by omega)) (rv_mul (by omega))) ev_c (rv_mod (by decide))) fun H2 e2 => ?_
  have hs := ex_l e2 hs
  have mk : ∀ x, f.getD 1 0 * inv97 (f.getD 0 0) % 97 = x → RetO K (Option.map (·.map pairD) (if (List.range 5).all (fun j => f.getD (j + 1) 0 == f.getD j 0 * x % 97) then
    match placeM x with
    | none => none
    | some p => some [((p : Int), f.getD 0 0 * inv97 x % 97)]
  else none)) H Q := fun x hx => by
    have q := k
    unfold oneM at q
    rw [if_neg h0] at q
    dsimp only at q
    rw [hx] at q
    exact q
  generalize hx : f.getD 1 0 * inv97 (f.getD 0 0) % 97 = x at *
  have k := mk x rfl
  refine q_forR2 (lo := 1) (n := 6) (ea_cons ev_c (ea_cons (ev_is (ev_len (ev_var rfl) hs) (by rw [List.length_map, hl]; rfl)) ea_nil)) (by decide) (fun i σ' H' => Ex H2 H' ∧ (∃ o, σ' = [some (.ref a), some (.int x), o, none]) ∧ ∀ j, j < i → (f.getD (j + 1) 0 == f.getD j 0 * x % 97) = true)
    (fun H1 e => ⟨e, ⟨none, rfl⟩, fun j hj => by omega⟩) ?_ ?_
  · rintro i σ' H' hi ⟨e, ⟨o, rfl⟩, hall⟩
    have hs := ex_l e hs
    have gi := hn.getD i
    refine s_when (b := !decide (f.getD (i + 1) 0 = f.getD i 0 * x % 97)) (et_is (et_test (ev_op (x := .int (f.getD (i + 1) 0)) (y := .int (f.getD i 0 * x % 97)) (ev_op (ev_var rfl) (ev_var rfl) (rv_ixL hs ?_)) (ev_op (ev_op (ev_op (ev_var rfl) (ev_op (ev_var rfl) ev_c rv_I0) (rv_ixL hs ?_)) (ev_var rfl) (rv_mul (by omega))) ev_c (rv_mod (by decide))) (rv_ne rfl))) (by simp)) (fun h H1 e1 => s_ret ev_c fun H3 e3 => ?_) (fun h H1 e1 => ?_)
    · have q := at_lit (ns := f) (k := i + 1) (by omega)
      rw [show ((i + 1 : Nat) : Int) = 1 + (i : Int) by omega] at q
      exact q
    · have q := at_lit (ns := f) (k := i) (by omega)
      rw [show ((i : Nat) : Int) = 1 + (i : Int) - 1 by omega] at q
      exact q
    · have q := k
      unfold RetO at q
      have hne : ¬ (List.range 5).all (fun j => f.getD (j + 1) 0 == f.getD j 0 * x % 97) = true := fun z => by
        have z := List.all_eq_true.mp z i (List.mem_range.mpr (by omega))
        have z := eq_of_beq z
        exact absurd h (by rw [decide_eq_true z]; decide)
      rw [if_neg hne] at q
      exact q H3 ((((e1.trans e3)) |> fun z => ((‹Ex H _›.trans e2).trans e).trans z))
    · refine ⟨e.trans e1, ⟨_, rfl⟩, fun j hj => ?_⟩
      by_cases hji : j < i
      · exact hall j hji
      · have : j = i := by omega
        subst this
        simpa using h
  · rintro σ' H' ⟨e, ⟨o, rfl⟩, hall⟩
    have ea : (List.range 5).all (fun j => f.getD (j + 1) 0 == f.getD j 0 * x % 97) = true := List.all_eq_true.mpr fun j hj => hall j (List.mem_range.mp hj)
    rw [if_pos ea] at k
    refine q_asg (ev_place_of (ev_var rfl)) fun H3 e3 => ?_
    have hs := ex_l (e.trans e3) hs
    have iv2 := inv_sig (a := x) (by omega) (by omega)
    unfold placeV
    cases hp : placeM x with
    | none =>
      rw [hp] at k
      refine q_when (b := true) (et_is (et_test (ev_isN (ev_var rfl))) rfl) (fun _ H4 e4 => s_ret ev_c fun H5 e5 => k H5 (((((‹Ex H H1›.trans e2).trans e).trans e3).trans e4).trans e5)) (fun h => nomatch h)
    | some p =>
      rw [hp] at k
      refine q_when (b := false) (et_is (et_test (ev_isN (ev_var rfl))) rfl) (fun h => nomatch h) fun _ H4 e4 => ?_
      have hs := ex_l e4 hs
      have ex0 : Ex H H4 := ((((‹Ex H H1›.trans e2).trans e).trans e3).trans e4)
      refine s_retIL (K := K) (ds := [pairD ((p : Int), f.getD 0 0 * inv97 x % 97)]) (eil_lst (evi_cons (evi_tup (evi_cons (evi_int (ev_var rfl)) (evi_cons (evi_int (ev_op (ev_op (ev_op (ev_var rfl) ev_c (rv_ixL hs (at_lit (k := 0) (by omega)))) (ev_inverse (ev_var rfl) (by omega)) (rv_mul (by omega))) ev_c (rv_mod (by decide)))) evi_nil)) (Nat.le_of_ble_eq_true rfl)) evi_nil) (Nat.le_of_ble_eq_true rfl)) fun l xs H5 _ e5 hl5 i5 => ?_
      exact k l xs H5 (ex0.trans e5) hl5 i5
section
variable {P : Program} {w : World} {K : PySem.W.Frag} {mg : Str → Option Value} {base : Heap}
theorem sc_one_turned : FnScope ["found", "x", "j", "place"] ["found"] (defScope s_one_turned) := ⟨rfl, rfl, rfl, by decide +kernel, rfl, by decide +kernel, by decide +kernel⟩
theorem dr_one_turned (T : Wd K mg) (c_inverse : Cal P w K mg base 3 "inverse" (sp_inverse K) []) (c_place_of : Cal P w K mg base 1 "place_of" (sp_place_of K) []) {f : Addr} {cdv : Value} {A : Around} {outer : List Env} {s : Shared} {H : Hp} {E : XK} (hr : Room 3 (A.deeper (envOfC "one_turned" (defScope s_one_turned) s.heap.objs.size f cdv))) :
    PSs (cxOf CX0 P w K mg base ["found", "x", "j", "place"] "one_turned" (defScope s_one_turned) f cdv A outer s H E).nox (defBody s_one_turned) (t_one_turned K) := by
  have nd := sc_one_turned.nd
  exact (pss_cons (ps_if (pt_cmpR op_in_seq pe_int (pv 0) (by rfl)) (pss_one (ps_ret pe_non)) pss_nil)
    (pss_cons (ps_set (i := 1) nd rfl (by first | exact Or.inl rfl | exact Or.inr rfl) (pe_op op_mod (pe_op op_mul (pe_ix ix_list (pv 0) pe_int (fun _ _ => rfl)) (pe_c c_inverse hr (by decide) rfl (pa_cons (pe_ix ix_list (pv 0) pe_int (fun _ _ => rfl)) pa_nil))) pe_int))
    (pss_cons (ps_for PassesOwn.never rfl (pi_range2 (by rfl) (T.free 101) (pa_cons pe_int (pa_cons (pe_callB call_len_seq (by rfl) (T.free 97) (by decide +kernel) (pa_cons (pv 0) pa_nil)) pa_nil))) (pg_name (i := 2) nd rfl (by first | exact Or.inl rfl | exact Or.inr rfl))
    (pss_one (ps_if (pt_cmpR op_ne (pe_ix ix_list (pv 0) (pv 2) (fun _ _ => rfl)) (pe_op op_mod (pe_op op_mul (pe_ix ix_list (pv 0) (pe_op op_sub (pv 2) pe_int) (fun _ _ => rfl)) (pv 1)) pe_int) (nomark _)) (pss_one (ps_ret pe_non)) pss_nil)))
    (pss_cons (ps_set (i := 3) nd rfl (by first | exact Or.inl rfl | exact Or.inr rfl) (pe_c c_place_of hr (by decide) rfl (pa_cons (pv 1) pa_nil)))
    (pss_cons (ps_if (pt_cmpR op_isN1 (pv 3) pe_non (nomark _)) (pss_one (ps_ret pe_non)) pss_nil)
    (pss_one (ps_ret (pe_lst (pa_cons (pe_tup (pa_cons (pv 3) (pa_cons (pe_op op_mod (pe_op op_mul (pe_ix ix_list (pv 0) pe_int (fun _ _ => rfl)) (pe_c c_inverse hr (by decide) rfl (pa_cons (pv 1) pa_nil))) pe_int) pa_nil))) pa_nil)))))))))
theorem ok_one_turned (T : Wd K mg) (c_inverse : Cal P w K mg base 3 "inverse" (sp_inverse K) []) (c_place_of : Cal P w K mg base 1 "place_of" (sp_place_of K) []) {f : Addr} {fd : FuncData} (F : FunD K ds_one_turned.name ds_one_turned.qual ds_one_turned.params ds_one_turned.body ds_one_turned.scope [] [] f fd) : FnOk P w K mg base CX0 4 f fd ["found"] (sp_one_turned K) := by
  refine FunD.ok F sc_one_turned (fun vs H Q E h => ?_) (fun cdv A outer s H vs Q E hr h => ⟨t_one_turned K, PSs.nox (dr_one_turned T c_inverse c_place_of hr), pure_one_turned T vs H Q E h⟩)
  obtain ⟨_, _, e, _⟩ := h
  rw [e]
  all_goals rfl
end
end

end K85
end
section
set_option maxHeartbeats 400000
namespace K85
open PySem PySem.Spec PyProof.Rows
open L2 hiding CX0 E0 pass0
open C8 Evl
/-! ### tactics -/
local macro_rules | `(tactic| walk_at "side") => `(tactic| first | omega | assumption | rfl | decide)
local macro_rules | `(tactic| walk_at "at") => `(tactic| first | (refine at_int ?_ ?_ <;> first | omega | (simp; omega)) | assumption)
local macro_rules | `(tactic| walk_at "rv") => `(tactic| first
  | with_reducible exact rv_I0
  | ((with_reducible apply rv_eq); rfl)
  | ((with_reducible apply rv_ne); rfl)
  | ((with_reducible apply rv_mod); first | omega | decide)
  | ((with_reducible apply rv_mul); omega)
  | ((with_reducible apply rv_div); omega)
  | ((with_reducible apply rv_ixL); · assumption
     · walk_at "at")
  | ((with_reducible apply rv_ixT); · assumption
     · walk_at "at"))
local macro_rules | `(tactic| walk_at "ev") => `(tactic| first
  | ((with_reducible apply ev_var); rfl)
  | with_reducible exact ev_c
  | ((with_reducible apply ev_isN); walk_at "ev")
  | ((with_reducible apply ev_notN); walk_at "ev")
  | ((with_reducible apply ev_op); · walk_at "ev"
     · walk_at "ev"
     · walk_at "rv")
  | ((with_reducible apply ev_un); · walk_at "ev"
     · with_reducible exact ru_neg)
  | ((with_reducible apply ev_chain); · walk_at "ev"
     · walk_at "ev"
     · walk_at "rv"
     · intro _; walk_at "ev"
     · intro _; walk_at "rv")
  | ((with_reducible apply ev_len); · walk_at "ev"
     · assumption)
  | ((with_reducible apply ev_lenT); · walk_at "ev"
     · assumption)
  | ((with_reducible apply ev_andV); · walk_at "ev"
     · intro _; walk_at "ev")
  | with_reducible assumption)
local macro_rules | `(tactic| walk_at "evt") => `(tactic| first
  | ((with_reducible apply et_or); · walk_at "evt"
     · intro _; walk_at "evt")
  | ((with_reducible apply et_and); · walk_at "evt"
     · intro _; walk_at "evt")
  | ((with_reducible apply et_not); walk_at "evt")
  | ((with_reducible apply et_test); walk_at "ev")
  | ((with_reducible apply et_B); walk_at "ev")
  | with_reducible assumption)
local macro_rules | `(tactic| walk_at "bool") => `(tactic| first | rfl | (simp; done) | (simp; omega) | (simp; intros; omega) | grind)
section
variable {K : PySem.W.Frag} {mg : Str → Option Value}
def goesM (f : List Int) (s p : Int) : Bool := (List.range 4).all fun j => (s * f.getD (j + 1) 0 - p * f.getD j 0 - f.getD (j + 2) 0) % 97 == 0
def sp_goes_on (K : PySem.W.Frag) : Sp := fun vs H Q _ => ∃ (a : Addr) (f : List Int) (s p : Int), vs = [.ref a, .int s, .int p] ∧ SqL K H a (f.map V.int) ∧ f.length = 6 ∧ 0 ≤ s ∧ s < 97 ∧ 0 ≤ p ∧ p < 97 ∧ RetV (.bl (goesM f s p)) H Q
/-- goes_on -/
def t_goes_on (K : PySem.W.Frag) : TS :=
    (tSeq (tFor (iRng2 (tCons (tC (.int 2)) (tCons (tCB (Evl.rLenS K) (tCons (tVar 0) tNil)) tNil))) (gName 3)
    (tIfS (tTest (tOp rNe (tOp rModI (tOp rSubI (tOp rSubI (tOp rMulI (tVar 1) (tOp (rIxL K) (tVar 0) (tOp rSubI (tVar 3) (tC (.int 1))))) (tOp rMulI (tVar 2) (tOp (rIxL K) (tVar 0) (tOp rSubI (tVar 3) (tC (.int 2)))))) (tOp (rIxL K) (tVar 0) (tVar 3))) (tC (.int 97))) (tC (.int 0)))) (tRet (tC (.bl false))) tNext))
    (tRet (tC (.bl true))))
theorem at_litz {ns : List Int} {k : Nat} {z : Int} (e : z = (k : Int)) (h : k < ns.length) : atI (ns.map V.int) z = some (.int (ns.getD k 0)) := by rw [e]; exact at_lit h
theorem pure_goes_on (T : Wd K mg) (vs : List V) (H : Hp) (Q : VK) (E : XK) (h : sp_goes_on K vs H Q E) : t_goes_on K { nx := fun _ H' => Q .non H', rt := Q } (start ["found", "s", "p", "j"] vs) H := by
  obtain ⟨a, f, s, p, rfl, hs, hl, s0, s1, p0, p1, k⟩ := h
  refine q_forR2 (lo := 2) (n := 6) (ea_cons ev_c (ea_cons (ev_is (ev_len (ev_var rfl) hs) (by rw [List.length_map, hl]; rfl)) ea_nil)) (by decide) (fun i σ' H' => Ex H H' ∧ (∃ o, σ' = [some (.ref a), some (.int s), some (.int p), o]) ∧ ∀ j, j < i → ((s * f.getD (j + 1) 0 - p * f.getD j 0 - f.getD (j + 2) 0) % 97 == 0) = true)
    (fun H1 e => ⟨e, ⟨none, rfl⟩, fun j hj => by omega⟩) ?_ ?_
  · rintro i σ' H' hi ⟨e, ⟨o, rfl⟩, hall⟩
    have hs := ex_l e hs
    refine s_when (b := !decide ((s * f.getD (i + 1) 0 - p * f.getD i 0 - f.getD (i + 2) 0) % 97 = 0)) (et_is (et_test (ev_op (ev_op (ev_op (ev_op (ev_op (ev_var rfl) (ev_op (ev_var rfl) (ev_op (ev_var rfl) ev_c rv_I0) (rv_ixL hs (at_litz (k := i + 1) (by omega) (by omega)))) (rv_mul (by omega))) (ev_op (ev_var rfl) (ev_op (ev_var rfl) (ev_op (ev_var rfl) ev_c rv_I0) (rv_ixL hs (at_litz (k := i) (by omega) (by omega)))) (rv_mul (by omega))) rv_I0) (ev_op (ev_var rfl) (ev_var rfl) (rv_ixL hs (at_litz (k := i + 2) (by omega) (by omega)))) rv_I0) ev_c (rv_mod (by decide))) ev_c (rv_ne rfl))) (by simp)) (fun h H1 e1 => s_ret ev_c fun H3 e3 => ?_) (fun h H1 e1 => ?_)
    · have hne : goesM f s p = false := by
        cases z : goesM f s p with
        | false => rfl
        | true =>
          have z := List.all_eq_true.mp z i (List.mem_range.mpr (by omega))
          exact absurd h (by rw [decide_eq_true (eq_of_beq z)]; decide)
      rw [hne] at k
      exact k H3 ((e.trans e1).trans e3)
    · refine ⟨e.trans e1, ⟨_, rfl⟩, fun j hj => ?_⟩
      by_cases hji : j < i
      · exact hall j hji
      · have : j = i := by omega
        subst this
        cases z : ((s * f.getD (j + 1) 0 - p * f.getD j 0 - f.getD (j + 2) 0) % 97 == 0) with
        | true => rfl
        | false => exact absurd h (by rw [decide_eq_false (beq_eq_false_iff_ne.mp z)]; decide)
  · rintro σ' H' ⟨e, ⟨o, rfl⟩, hall⟩
    have ea : goesM f s p = true := List.all_eq_true.mpr fun j hj => hall j (List.mem_range.mp hj)
    rw [ea] at k
    exact s_ret ev_c fun H2 e2 => k H2 (e.trans e2)
section
variable {P : Program} {w : World} {K : PySem.W.Frag} {mg : Str → Option Value} {base : Heap}
theorem sc_goes_on : FnScope ["found", "s", "p", "j"] ["found", "s", "p"] (defScope s_goes_on) := ⟨rfl, rfl, rfl, by decide +kernel, rfl, by decide +kernel, by decide +kernel⟩
theorem dr_goes_on (T : Wd K mg) {f : Addr} {cdv : Value} {A : Around} {outer : List Env} {s : Shared} {H : Hp} {E : XK} (hr : Room 0 (A.deeper (envOfC "goes_on" (defScope s_goes_on) s.heap.objs.size f cdv))) :
    PSs (cxOf CX0 P w K mg base ["found", "s", "p", "j"] "goes_on" (defScope s_goes_on) f cdv A outer s H E).nox (defBody s_goes_on) (t_goes_on K) := by
  have nd := sc_goes_on.nd
  exact (pss_cons (ps_for PassesOwn.never rfl (pi_range2 (by rfl) (T.free 101) (pa_cons pe_int (pa_cons (pe_callB call_len_seq (by rfl) (T.free 97) (by decide +kernel) (pa_cons (pv 0) pa_nil)) pa_nil))) (pg_name (i := 3) nd rfl (by first | exact Or.inl rfl | exact Or.inr rfl))
    (pss_one (ps_if (pt_cmpR op_ne (pe_op op_mod (pe_op op_sub (pe_op op_sub (pe_op op_mul (pv 1) (pe_ix ix_list (pv 0) (pe_op op_sub (pv 3) pe_int) (fun _ _ => rfl))) (pe_op op_mul (pv 2) (pe_ix ix_list (pv 0) (pe_op op_sub (pv 3) pe_int) (fun _ _ => rfl)))) (pe_ix ix_list (pv 0) (pv 3) (fun _ _ => rfl))) pe_int) pe_int (nomark _)) (pss_one (ps_ret pe_bl)) pss_nil)))
    (pss_one (ps_ret pe_bl)))
theorem ok_goes_on (T : Wd K mg) {f : Addr} {fd : FuncData} (F : FunD K ds_goes_on.name ds_goes_on.qual ds_goes_on.params ds_goes_on.body ds_goes_on.scope [] [] f fd) : FnOk P w K mg base CX0 1 f fd ["found", "s", "p"] (sp_goes_on K) := by
  refine FunD.ok F sc_goes_on (fun vs H Q E h => ?_) (fun cdv A outer s H vs Q E hr h => ⟨t_goes_on K, PSs.nox (dr_goes_on T  hr), pure_goes_on T vs H Q E h⟩)
  obtain ⟨_, _, _, _, e, _⟩ := h
  rw [e]
  all_goals rfl
end
theorem ev_goes_on {σ : L2.St} {H : Hp} {te tf tg : TE} {a : Addr} {f : List Int} {s p : Int} (h : Ev te σ H (.ref a)) (h' : Ev tf σ H (.int s)) (h'' : Ev tg σ H (.int p)) (hs : SqL K H a (f.map V.int)) (hl : f.length = 6) (hb : 0 ≤ s ∧ s < 97 ∧ 0 ≤ p ∧ p < 97) : Ev (tCall (sp_goes_on K) [] E0 (tCons te (tCons tf (tCons tg tNil)))) σ H (.bl (goesM f s p)) :=
  ev_call (ea_cons h (ea_cons h' (ea_cons h'' ea_nil))) fun _ e _ q _ => ⟨a, f, s, p, rfl, ex_l e hs, hl, hb.1, hb.2.1, hb.2.2.1, hb.2.2.2, q⟩
/-! ### two signs turned -/
def belowM (f : List Int) : Int := (f.getD 0 0 * f.getD 2 0 - f.getD 1 0 * f.getD 1 0) % 97
def sM (f : List Int) : Int := (f.getD 0 0 * f.getD 3 0 - f.getD 1 0 * f.getD 2 0) * inv97 (belowM f) % 97
def pM (f : List Int) : Int := (f.getD 1 0 * f.getD 3 0 - f.getD 2 0 * f.getD 2 0) * inv97 (belowM f) % 97
def rootM (s p : Int) (i : Nat) : Bool := (powL.getD i 0 * powL.getD i 0 - s * powL.getD i 0 + p) % 97 == 0
def placesM (s p : Int) : List Nat := (List.range 24).filter (rootM s p)
def firstM (f : List Int) (x y : Int) : Int := (f.getD 1 0 - f.getD 0 0 * y) * inv97 (x * (x - y) % 97) % 97
def secondM (f : List Int) (x y : Int) : Int := (f.getD 0 0 - firstM f x y * x) * inv97 y % 97
def twoM (f : List Int) : Option (List (Int × Int)) :=
  if belowM f = 0 then none else
  match placesM (sM f) (pM f) with
  | i :: j :: _ => if goesM f (sM f) (pM f) = true then some [((i : Int), firstM f (powL.getD i 0) (powL.getD j 0)), ((j : Int), secondM f (powL.getD i 0) (powL.getD j 0))] else none
  | _ => none
def sp_two_turned (K : PySem.W.Frag) : Sp := fun vs H Q _ => ∃ (a : Addr) (f : List Int), vs = [.ref a] ∧ SqL K H a (f.map V.int) ∧ f.length = 6 ∧ Sigs f ∧ RetO K ((twoM f).map (·.map pairD)) H Q
/-- two_turned -/
def t_two_turned (K : PySem.W.Frag) : TS :=
    (tSeq (tAsg (tOp rModI (tOp rSubI (tOp rMulI (tOp (rIxL K) (tVar 0) (tC (.int 0))) (tOp (rIxL K) (tVar 0) (tC (.int 2)))) (tOp rMulI (tOp (rIxL K) (tVar 0) (tC (.int 1))) (tOp (rIxL K) (tVar 0) (tC (.int 1))))) (tC (.int 97))) (gName 1))
    (tSeq (tIfS (tTest (tOp rEq (tVar 1) (tC (.int 0)))) (tRet (tC .non)) tNext)
    (tSeq (tAsg (tCall (sp_inverse K) [] C8.E0 (tCons (tVar 1) tNil)) (gName 2))
    (tSeq (tAsg (tOp rModI (tOp rMulI (tOp rSubI (tOp rMulI (tOp (rIxL K) (tVar 0) (tC (.int 0))) (tOp (rIxL K) (tVar 0) (tC (.int 3)))) (tOp rMulI (tOp (rIxL K) (tVar 0) (tC (.int 1))) (tOp (rIxL K) (tVar 0) (tC (.int 2))))) (tVar 2)) (tC (.int 97))) (gName 3))
    (tSeq (tAsg (tOp rModI (tOp rMulI (tOp rSubI (tOp rMulI (tOp (rIxL K) (tVar 0) (tC (.int 1))) (tOp (rIxL K) (tVar 0) (tC (.int 3)))) (tOp rMulI (tOp (rIxL K) (tVar 0) (tC (.int 2))) (tOp (rIxL K) (tVar 0) (tC (.int 2))))) (tVar 2)) (tC (.int 97))) (gName 4))
    (tSeq (tAsg (tLc (iRng1 (tCons (tC (.int 24)) tNil)) (gName 10) (tTest (tOp rEq (tOp rModI (tOp rAddI (tOp rSubI (tOp rMulI (tOp (rIxL K) (tC (.ref (He.ga K "POWERS"))) (tVar 10)) (tOp (rIxL K) (tC (.ref (He.ga K "POWERS"))) (tVar 10))) (tOp rMulI (tVar 3) (tOp (rIxL K) (tC (.ref (He.ga K "POWERS"))) (tVar 10)))) (tVar 4)) (tC (.int 97))) (tC (.int 0)))) (tVar 10) [10]) (gName 5))
    (tSeq (tIfS (tOr (tTest (tOp rLtI (tCB (Evl.rLenS K) (tCons (tVar 5) tNil)) (tC (.int 2)))) (tNot (tB (tCall (sp_goes_on K) [] C8.E0 (tCons (tVar 0) (tCons (tVar 3) (tCons (tVar 4) tNil))))))) (tRet (tC .non)) tNext)
    (tSeq (tPar 6 7 (tCons (tOp (rIxL K) (tC (.ref (He.ga K "POWERS"))) (tOp (rIxL K) (tVar 5) (tC (.int 0)))) (tCons (tOp (rIxL K) (tC (.ref (He.ga K "POWERS"))) (tOp (rIxL K) (tVar 5) (tC (.int 1)))) tNil)))
    (tSeq (tAsg (tOp rModI (tOp rMulI (tOp rSubI (tOp (rIxL K) (tVar 0) (tC (.int 1))) (tOp rMulI (tOp (rIxL K) (tVar 0) (tC (.int 0))) (tVar 7))) (tCall (sp_inverse K) [] C8.E0 (tCons (tOp rModI (tOp rMulI (tVar 6) (tOp rSubI (tVar 6) (tVar 7))) (tC (.int 97))) tNil))) (tC (.int 97))) (gName 8))
    (tSeq (tAsg (tOp rModI (tOp rMulI (tOp rSubI (tOp (rIxL K) (tVar 0) (tC (.int 0))) (tOp rMulI (tVar 8) (tVar 6))) (tCall (sp_inverse K) [] C8.E0 (tCons (tVar 7) tNil))) (tC (.int 97))) (gName 9))
    (tRet (tLst (tCons (tTup (tCons (tOp (rIxL K) (tVar 5) (tC (.int 0))) (tCons (tVar 8) tNil))) (tCons (tTup (tCons (tOp (rIxL K) (tVar 5) (tC (.int 1))) (tCons (tVar 9) tNil))) tNil))))))))))))))
theorem pow_nz : ∀ i : Nat, i < 24 → 0 < powL.getD i 0 := by decide
theorem pow_ne : ∀ i : Nat, i < 24 → ∀ j : Nat, j < 24 → i ≠ j → powL.getD i 0 * (powL.getD i 0 - powL.getD j 0) % 97 ≠ 0 := by decide +kernel
theorem places_lt {s p : Int} {i : Nat} (h : i ∈ placesM s p) : i < 24 := List.mem_range.mp (List.mem_filter.mp h).1
theorem places_nd (s p : Int) : (placesM s p).Nodup := List.Nodup.sublist List.filter_sublist List.nodup_range
theorem pure_two_turned (T : Wd K mg) (vs : List V) (H : Hp) (Q : VK) (E : XK) (h : sp_two_turned K vs H Q E) : t_two_turned K { nx := fun _ H' => Q .non H', rt := Q } (start ["found", "below", "over", "s", "p", "places", "one", "two", "first", "second", "i"] vs) H := by
  obtain ⟨a, f, rfl, hs, hl, hn, k⟩ := h
  unfold RetO twoM at k
  have g0 := hn.getD 0
  have g1 := hn.getD 1
  have g2 := hn.getD 2
  have g3 := hn.getD 3
  have bm : 0 ≤ belowM f ∧ belowM f < 97 := sig_mod _
  refine q_asg (v := .int (belowM f)) (ev_is (ev_op (ev_op (ev_op (ev_op (ev_var rfl) ev_c (rv_ixL hs (at_lit (k := 0) (by omega)))) (ev_op (ev_var rfl) ev_c (rv_ixL hs (at_lit (k := 2) (by omega)))) (rv_mul (by omega))) (ev_op (ev_op (ev_var rfl) ev_c (rv_ixL hs (at_lit (k := 1) (by omega)))) (ev_op (ev_var rfl) ev_c (rv_ixL hs (at_lit (k := 1) (by omega)))) (rv_mul (by omega))) rv_I0) ev_c (rv_mod (by decide))) rfl) fun H1 e1 => ?_
  have hs := ex_l e1 hs
  refine q_when (b := decide (belowM f = 0)) (et_is (et_test (ev_op (ev_var rfl) ev_c (rv_eq rfl))) (by simp)) (fun h H2 e2 => s_ret ev_c fun H3 e3 => ?_) (fun h H2 e2 => ?_)
  · rw [if_pos (of_decide_eq_true h)] at k
    exact k H3 ((e1.trans e2).trans e3)
  have bz : belowM f ≠ 0 := of_decide_eq_false h
  rw [if_neg bz] at k
  have iv := inv_sig (a := belowM f) (by omega) (by omega)
  have hs := ex_l e2 hs
  refine q_asg (v := .int (inv97 (belowM f))) (ev_inverse (ev_var rfl) (by omega)) fun H3 e3 => ?_
  have hs := ex_l e3 hs
  refine q_asg (v := .int (sM f)) (ev_is (ev_op (ev_op (ev_op (ev_op (ev_op (ev_var rfl) ev_c (rv_ixL hs (at_lit (k := 0) (by omega)))) (ev_op (ev_var rfl) ev_c (rv_ixL hs (at_lit (k := 3) (by omega)))) (rv_mul (by omega))) (ev_op (ev_op (ev_var rfl) ev_c (rv_ixL hs (at_lit (k := 1) (by omega)))) (ev_op (ev_var rfl) ev_c (rv_ixL hs (at_lit (k := 2) (by omega)))) (rv_mul (by omega))) rv_I0) (ev_var rfl) (rv_mul (by omega))) ev_c (rv_mod (by decide))) rfl) fun H4 e4 => ?_
  have hs := ex_l e4 hs
  refine q_asg (v := .int (pM f)) (ev_is (ev_op (ev_op (ev_op (ev_op (ev_op (ev_var rfl) ev_c (rv_ixL hs (at_lit (k := 1) (by omega)))) (ev_op (ev_var rfl) ev_c (rv_ixL hs (at_lit (k := 3) (by omega)))) (rv_mul (by omega))) (ev_op (ev_op (ev_var rfl) ev_c (rv_ixL hs (at_lit (k := 2) (by omega)))) (ev_op (ev_var rfl) ev_c (rv_ixL hs (at_lit (k := 2) (by omega)))) (rv_mul (by omega))) rv_I0) (ev_var rfl) (rv_mul (by omega))) ev_c (rv_mod (by decide))) rfl) fun H5 e5 => ?_
  have hs := ex_l e5 hs
  have sb : 0 ≤ sM f ∧ sM f < 97 := sig_mod _
  have pb : 0 ≤ pM f ∧ pM f < 97 := sig_mod _
  generalize sM f = s at *
  generalize pM f = p at *
  have pl := pow_len
  have pw : ∀ (i : Nat) (H9 : Hp) (σ : L2.St), (i : Int) < 24 → σ[10]? = some (some (.int (i : Int))) → Ev (tOp (rIxL K) (tC (.ref (He.ga K "POWERS"))) (tVar 10)) σ H9 (.int (powL.getD i 0)) := fun i H9 σ hi hv => ev_op ev_c (ev_var hv) (rv_ixL (T.pow H9) (at_lit (k := i) (by omega)))
  refine q_asgL (xs := ((placesM s p).map fun i : Nat => (i : Int)).map V.int) (el_filR1 (n := 24) (rootM s p) (ea_cons ev_c ea_nil) (by decide) (fun _ => rfl) (fun i H6 e6 hi => ?_) (fun i H6 e6 hi => ev_var rfl)) fun l H6 hl6 e6 hp6 => ?_
  · have ps := pow_sig i
    exact et_is (et_test (ev_op (ev_op (ev_op (ev_op (ev_op (pw i H6 _ hi rfl) (pw i H6 _ hi rfl) (rv_mul (by omega))) (ev_op (ev_var rfl) (pw i H6 _ hi rfl) (rv_mul (by omega))) rv_I0) (ev_var rfl) rv_I0) ev_c (rv_mod (by decide))) ev_c (rv_eq rfl))) (by
        unfold rootM
        rw [Bool.eq_iff_iff]
        simp)
  have hs := ex_l e6 hs
  have hpl : SqL K H6 l (((placesM s p).map fun i : Nat => (i : Int)).map V.int) := sq_of hp6
  have ex6 : Ex H H6 := ((((e1.trans e2).trans e3).trans e4).trans e5).trans e6
  refine q_when (b := decide ((placesM s p).length < 2) || !goesM f s p) (et_is (et_or (et_test (ev_op (ev_len (ev_var rfl) hpl) ev_c rv_I0)) (fun _ => et_not (et_B (ev_goes_on (f := f) (ev_var rfl) (ev_var rfl) (ev_var rfl) hs hl ⟨sb.1, sb.2, pb.1, pb.2⟩)))) ?_) (fun h H7 e7 => s_ret ev_c fun H8 e8 => ?_) (fun h H7 e7 => ?_)
  · rw [List.length_map, List.length_map]
    have e : decide (((placesM s p).length : Int) < 2) = decide ((placesM s p).length < 2) := by
      rw [Bool.eq_iff_iff]
      simp only [decide_eq_true_eq]
      omega
    rw [e]
  · rcases hq : placesM s p with _ | ⟨i, _ | ⟨j, r⟩⟩
    · rw [hq] at k
      exact k H8 ((ex6.trans e7).trans e8)
    · rw [hq] at k
      exact k H8 ((ex6.trans e7).trans e8)
    · rw [hq] at k h
      have hg : ¬ goesM f s p = true := fun z => by
        rw [z] at h
        simp at h
        omega
      dsimp only at k
      rw [if_neg hg] at k
      exact k H8 ((ex6.trans e7).trans e8)
  · obtain ⟨h1, h2⟩ := Bool.or_eq_false_iff.mp h
    have hg : goesM f s p = true := by
      cases z : goesM f s p with
      | true => rfl
      | false => rw [z] at h2; cases h2
    have hlen := of_decide_eq_false h1
    have hs := ex_l e7 hs
    have hpl := ex_l e7 hpl
    have nd := places_nd s p
    have lt := @places_lt s p
    rcases hq : placesM s p with _ | ⟨i, _ | ⟨j, r⟩⟩
    · rw [hq] at hlen
      exact absurd (by simp) hlen
    · rw [hq] at hlen
      exact absurd (by simp) hlen
    rw [hq] at k hpl nd lt
    dsimp only at k
    rw [if_pos hg] at k
    have hi : i < 24 := lt (by simp)
    have hj : j < 24 := lt (by simp)
    have hij : i ≠ j := fun z => by
      subst z
      simp at nd
    have wi := pow_sig i
    have wj := pow_sig j
    have zi := pow_nz i hi
    have zj := pow_nz j hj
    have nz := pow_ne i hi j hj hij
    have il : atI (((i :: j :: r).map fun i : Nat => (i : Int)).map V.int) 0 = some (.int (i : Int)) := at_nat (by decide) rfl
    have jl : atI (((i :: j :: r).map fun i : Nat => (i : Int)).map V.int) 1 = some (.int (j : Int)) := at_nat (by decide) rfl
    refine q_par (v := .int (powL.getD i 0)) (w := .int (powL.getD j 0)) (ea_cons (ev_op ev_c (ev_op (ev_var rfl) ev_c (rv_ixL hpl il)) (rv_ixL (T.pow H7) (at_lit (k := i) (by omega)))) (ea_cons (ev_op ev_c (ev_op (ev_var rfl) ev_c (rv_ixL hpl jl)) (rv_ixL (T.pow H7) (at_lit (k := j) (by omega)))) ea_nil)) fun H8 e8 => ?_
    have hs := ex_l e8 hs
    have hpl := ex_l e8 hpl
    have fm : 0 ≤ firstM f (powL.getD i 0) (powL.getD j 0) ∧ firstM f (powL.getD i 0) (powL.getD j 0) < 97 := sig_mod _
    have iv2 := inv_sig (a := powL.getD i 0 * (powL.getD i 0 - powL.getD j 0) % 97) (by omega) (by omega)
    have iv3 := inv_sig (a := powL.getD j 0) (by omega) (by omega)
    refine q_asg (v := .int (firstM f (powL.getD i 0) (powL.getD j 0))) (ev_is (ev_op (ev_op (ev_op (ev_op (ev_var rfl) ev_c (rv_ixL hs (at_lit (k := 1) (by omega)))) (ev_op (ev_op (ev_var rfl) ev_c (rv_ixL hs (at_lit (k := 0) (by omega)))) (ev_var rfl) (rv_mul (by omega))) rv_I0) (ev_inverse (a := powL.getD i 0 * (powL.getD i 0 - powL.getD j 0) % 97) (ev_op (ev_op (ev_var rfl) (ev_op (ev_var rfl) (ev_var rfl) rv_I0) (rv_mul (by omega))) ev_c (rv_mod (by decide))) (by omega)) (rv_mul (by omega))) ev_c (rv_mod (by decide))) rfl) fun H9 e9 => ?_
    have hs := ex_l e9 hs
    have hpl := ex_l e9 hpl
    refine q_asg (v := .int (secondM f (powL.getD i 0) (powL.getD j 0))) (ev_is (ev_op (ev_op (ev_op (ev_op (ev_var rfl) ev_c (rv_ixL hs (at_lit (k := 0) (by omega)))) (ev_op (ev_var rfl) (ev_var rfl) (rv_mul (by omega))) rv_I0) (ev_inverse (a := powL.getD j 0) (ev_var rfl) (by omega)) (rv_mul (by omega))) ev_c (rv_mod (by decide))) rfl) fun H10 e10 => ?_
    have hpl := ex_l e10 hpl
    refine s_retIL (K := K) (ds := [pairD ((i : Int), firstM f (powL.getD i 0) (powL.getD j 0)), pairD ((j : Int), secondM f (powL.getD i 0) (powL.getD j 0))])
      (eil_lst (evi_cons (evi_tup (evi_cons (evi_int (ev_op (ev_var rfl) ev_c (rv_ixL hpl il))) (evi_cons (evi_int (ev_var rfl)) evi_nil)) (Nat.le_of_ble_eq_true rfl)) (evi_cons (evi_tup (evi_cons (evi_int (ev_op (ev_var rfl) ev_c (rv_ixL hpl jl))) (evi_cons (evi_int (ev_var rfl)) evi_nil)) (Nat.le_of_ble_eq_true rfl)) evi_nil)) (Nat.le_of_ble_eq_true rfl)) fun l2 xs H11 _ e11 hl11 i11 => ?_
    exact k l2 xs H11 ((((ex6.trans e7).trans e8).trans e9).trans (e10.trans e11)) hl11 i11
section
variable {P : Program} {w : World} {K : PySem.W.Frag} {mg : Str → Option Value} {base : Heap}
theorem sc_two_turned : FnScope ["found", "below", "over", "s", "p", "places", "one", "two", "first", "second", "i"] ["found"] (defScope s_two_turned) := ⟨rfl, rfl, rfl, by decide +kernel, rfl, by decide +kernel, by decide +kernel⟩
theorem dr_two_turned (T : Wd K mg) (c_inverse : Cal P w K mg base 3 "inverse" (sp_inverse K) []) (c_goes_on : Cal P w K mg base 1 "goes_on" (sp_goes_on K) []) {f : Addr} {cdv : Value} {A : Around} {outer : List Env} {s : Shared} {H : Hp} {E : XK} (hr : Room 3 (A.deeper (envOfC "two_turned" (defScope s_two_turned) s.heap.objs.size f cdv))) :
    PSs (cxOf CX0 P w K mg base ["found", "below", "over", "s", "p", "places", "one", "two", "first", "second", "i"] "two_turned" (defScope s_two_turned) f cdv A outer s H E).nox (defBody s_two_turned) (t_two_turned K) := by
  have nd := sc_two_turned.nd
  exact (pss_cons (ps_set (i := 1) nd rfl (by first | exact Or.inl rfl | exact Or.inr rfl) (pe_op op_mod (pe_op op_sub (pe_op op_mul (pe_ix ix_list (pv 0) pe_int (fun _ _ => rfl)) (pe_ix ix_list (pv 0) pe_int (fun _ _ => rfl))) (pe_op op_mul (pe_ix ix_list (pv 0) pe_int (fun _ _ => rfl)) (pe_ix ix_list (pv 0) pe_int (fun _ _ => rfl)))) pe_int))
    (pss_cons (ps_if (pt_cmpR op_eq (pv 1) pe_int (nomark _)) (pss_one (ps_ret pe_non)) pss_nil)
    (pss_cons (ps_set (i := 2) nd rfl (by first | exact Or.inl rfl | exact Or.inr rfl) (pe_c c_inverse hr (by decide) rfl (pa_cons (pv 1) pa_nil)))
    (pss_cons (ps_set (i := 3) nd rfl (by first | exact Or.inl rfl | exact Or.inr rfl) (pe_op op_mod (pe_op op_mul (pe_op op_sub (pe_op op_mul (pe_ix ix_list (pv 0) pe_int (fun _ _ => rfl)) (pe_ix ix_list (pv 0) pe_int (fun _ _ => rfl))) (pe_op op_mul (pe_ix ix_list (pv 0) pe_int (fun _ _ => rfl)) (pe_ix ix_list (pv 0) pe_int (fun _ _ => rfl)))) (pv 2)) pe_int))
    (pss_cons (ps_set (i := 4) nd rfl (by first | exact Or.inl rfl | exact Or.inr rfl) (pe_op op_mod (pe_op op_mul (pe_op op_sub (pe_op op_mul (pe_ix ix_list (pv 0) pe_int (fun _ _ => rfl)) (pe_ix ix_list (pv 0) pe_int (fun _ _ => rfl))) (pe_op op_mul (pe_ix ix_list (pv 0) pe_int (fun _ _ => rfl)) (pe_ix ix_list (pv 0) pe_int (fun _ _ => rfl)))) (pv 2)) pe_int))
    (pss_cons (ps_setLc (i := 5) (own := [("i", 10)]) (g := (gName 10)) (tt := (tTest (tOp rEq (tOp rModI (tOp rAddI (tOp rSubI (tOp rMulI (tOp (rIxL K) (tC (.ref (He.ga K "POWERS"))) (tVar 10)) (tOp (rIxL K) (tC (.ref (He.ga K "POWERS"))) (tVar 10))) (tOp rMulI (tVar 3) (tOp (rIxL K) (tC (.ref (He.ga K "POWERS"))) (tVar 10)))) (tVar 4)) (tC (.int 97))) (tC (.int 0))))) rfl nd rfl rfl (sw_true rfl rfl rfl (by decide +kernel)) (pi_range1 (by rfl) (T.free 101) (pa_cons (pe_gc rfl (T.int 17)) pa_nil)) (blkOk_by (by kernel_rfl)) (fun _ _ _ _ _ => (pg_name (i := 10) nd rfl (by first | exact Or.inl rfl | exact Or.inr rfl))) (fun _ _ _ _ _ => pts_one (pt_cmpR op_eq (pe_op op_mod (pe_op op_add (pe_op op_sub (pe_op op_mul (pe_ix ix_list (pe_gc rfl (T.glo 15)) (pv 10) (fun _ _ => rfl)) (pe_ix ix_list (pe_gc rfl (T.glo 15)) (pv 10) (fun _ _ => rfl))) (pe_op op_mul (pv 3) (pe_ix ix_list (pe_gc rfl (T.glo 15)) (pv 10) (fun _ _ => rfl)))) (pv 4)) pe_int) pe_int (nomark _))) (fun _ _ _ _ _ => (pv 10)))
    (pss_cons (ps_if (PW.pt (pw_or (pt_cmpR op_lt (pe_callB call_len_seq (by rfl) (T.free 97) (by decide +kernel) (pa_cons (pv 5) pa_nil)) pe_int (nomark _)) (pw_or1 (pt_not (pt_val (pe_c c_goes_on hr (by decide) rfl (pa_cons (pv 0) (pa_cons (pv 3) (pa_cons (pv 4) pa_nil))))))))) (pss_one (ps_ret pe_non)) pss_nil)
    (pss_cons (ps_par (by rfl) nd rfl rfl (by decide) rfl rfl (pa_cons (pe_ix ix_list (pe_gc rfl (T.glo 15)) (pe_ix ix_list (pv 5) pe_int (fun _ _ => rfl)) (fun _ _ => rfl)) (pa_cons (pe_ix ix_list (pe_gc rfl (T.glo 15)) (pe_ix ix_list (pv 5) pe_int (fun _ _ => rfl)) (fun _ _ => rfl)) pa_nil)) (by rfl))
    (pss_cons (ps_set (i := 8) nd rfl (by first | exact Or.inl rfl | exact Or.inr rfl) (pe_op op_mod (pe_op op_mul (pe_op op_sub (pe_ix ix_list (pv 0) pe_int (fun _ _ => rfl)) (pe_op op_mul (pe_ix ix_list (pv 0) pe_int (fun _ _ => rfl)) (pv 7))) (pe_c c_inverse hr (by decide) rfl (pa_cons (pe_op op_mod (pe_op op_mul (pv 6) (pe_op op_sub (pv 6) (pv 7))) pe_int) pa_nil))) pe_int))
    (pss_cons (ps_set (i := 9) nd rfl (by first | exact Or.inl rfl | exact Or.inr rfl) (pe_op op_mod (pe_op op_mul (pe_op op_sub (pe_ix ix_list (pv 0) pe_int (fun _ _ => rfl)) (pe_op op_mul (pv 8) (pv 6))) (pe_c c_inverse hr (by decide) rfl (pa_cons (pv 7) pa_nil))) pe_int))
    (pss_one (ps_ret (pe_lst (pa_cons (pe_tup (pa_cons (pe_ix ix_list (pv 5) pe_int (fun _ _ => rfl)) (pa_cons (pv 8) pa_nil))) (pa_cons (pe_tup (pa_cons (pe_ix ix_list (pv 5) pe_int (fun _ _ => rfl)) (pa_cons (pv 9) pa_nil))) pa_nil)))))))))))))))
theorem ok_two_turned (T : Wd K mg) (c_inverse : Cal P w K mg base 3 "inverse" (sp_inverse K) []) (c_goes_on : Cal P w K mg base 1 "goes_on" (sp_goes_on K) []) {f : Addr} {fd : FuncData} (F : FunD K ds_two_turned.name ds_two_turned.qual ds_two_turned.params ds_two_turned.body ds_two_turned.scope [] [] f fd) : FnOk P w K mg base CX0 4 f fd ["found"] (sp_two_turned K) := by
  refine FunD.ok F sc_two_turned (fun vs H Q E h => ?_) (fun cdv A outer s H vs Q E hr h => ⟨t_two_turned K, PSs.nox (dr_two_turned T c_inverse c_goes_on hr), pure_two_turned T vs H Q E h⟩)
  obtain ⟨_, _, e, _⟩ := h
  rw [e]
  all_goals rfl
end
end

end K85
end
section
set_option maxHeartbeats 400000
namespace K85
open PySem PySem.Spec PyProof.Rows
open L2 hiding CX0 E0 pass0
open C8 Evl
/-! ### tactics -/
local macro_rules | `(tactic| walk_at "side") => `(tactic| first | omega | assumption | rfl | decide)
local macro_rules | `(tactic| walk_at "at") => `(tactic| first | (refine at_int ?_ ?_ <;> first | omega | (simp; omega)) | assumption)
local macro_rules | `(tactic| walk_at "rv") => `(tactic| first
  | with_reducible exact rv_I0
  | ((with_reducible apply rv_eq); rfl)
  | ((with_reducible apply rv_ne); rfl)
  | ((with_reducible apply rv_mod); first | omega | decide)
  | ((with_reducible apply rv_mul); omega)
  | ((with_reducible apply rv_div); omega)
  | ((with_reducible apply rv_ixL); · assumption
     · walk_at "at")
  | ((with_reducible apply rv_ixT); · assumption
     · walk_at "at"))
local macro_rules | `(tactic| walk_at "ev") => `(tactic| first
  | ((with_reducible apply ev_var); rfl)
  | with_reducible exact ev_c
  | ((with_reducible apply ev_isN); walk_at "ev")
  | ((with_reducible apply ev_notN); walk_at "ev")
  | ((with_reducible apply ev_op); · walk_at "ev"
     · walk_at "ev"
     · walk_at "rv")
  | ((with_reducible apply ev_un); · walk_at "ev"
     · with_reducible exact ru_neg)
  | ((with_reducible apply ev_chain); · walk_at "ev"
     · walk_at "ev"
     · walk_at "rv"
     · intro _; walk_at "ev"
     · intro _; walk_at "rv")
  | ((with_reducible apply ev_len); · walk_at "ev"
     · assumption)
  | ((with_reducible apply ev_lenT); · walk_at "ev"
     · assumption)
  | ((with_reducible apply ev_andV); · walk_at "ev"
     · intro _; walk_at "ev")
  | with_reducible assumption)
local macro_rules | `(tactic| walk_at "evt") => `(tactic| first
  | ((with_reducible apply et_or); · walk_at "evt"
     · intro _; walk_at "evt")
  | ((with_reducible apply et_and); · walk_at "evt"
     · intro _; walk_at "evt")
  | ((with_reducible apply et_not); walk_at "evt")
  | ((with_reducible apply et_test); walk_at "ev")
  | ((with_reducible apply et_B); walk_at "ev")
  | with_reducible assumption)
local macro_rules | `(tactic| walk_at "bool") => `(tactic| first | rfl | (simp; done) | (simp; omega) | (simp; intros; omega) | grind)
section
variable {K : PySem.W.Frag} {mg : Str → Option Value}
theorem er_one_turned {σ : L2.St} {H : Hp} {te : TE} {a : Addr} {f : List Int} (h : Ev te σ H (.ref a)) (hs : SqL K H a (f.map V.int)) (hl : f.length = 6) (hn : Sigs f) : EvRO K (tCall (sp_one_turned K) [] E0 (tCons te tNil)) σ H ((oneM f).map (·.map pairD)) := fun H1 e Q q =>
  h H1 e _ fun H2 e2 => ⟨a, f, rfl, ex_l (e.trans e2) hs, hl, hn, q.mono e2⟩
theorem er_two_turned {σ : L2.St} {H : Hp} {te : TE} {a : Addr} {f : List Int} (h : Ev te σ H (.ref a)) (hs : SqL K H a (f.map V.int)) (hl : f.length = 6) (hn : Sigs f) : EvRO K (tCall (sp_two_turned K) [] E0 (tCons te tNil)) σ H ((twoM f).map (·.map pairD)) := fun H1 e Q q =>
  h H1 e _ fun H2 e2 => ⟨a, f, rfl, ex_l (e.trans e2) hs, hl, hn, q.mono e2⟩
def turnsM (f : List Int) : Option (List (Int × Int)) := if f = List.replicate 6 0 then some [] else match oneM f with
  | some t => some t
  | none => twoM f
def unturn (c : List Int) (ts : List (Int × Int)) : List Int := ts.foldl (fun c p => c.set p.1.toNat ((c.getD p.1.toNat 0 - p.2) % 97)) c
def mendM (c : List Int) : Option (List Int) := (turnsM (sumsM c)).map (unturn c)
def RetM (o : Option (List Int)) (H : Hp) (Q : VK) : Prop := match o with
  | none => RetV .non H Q
  | some m => RetL (m.map V.int) H Q
def sp_mended (K : PySem.W.Frag) : Sp := fun vs H Q _ => ∃ (a : Addr) (ns : List Int), vs = [.ref a] ∧ SqL K H a (ns.map V.int) ∧ ns.length = 24 ∧ Sigs ns ∧ RetM (mendM ns) H Q
/-- mended -/
def t_mended (K : PySem.W.Frag) : TS :=
    (tSeq (tAsg (tCall (sp_troubles K) [] C8.E0 (tCons (tVar 0) tNil)) (gName 1))
    (tSeq (tAsg (tLst tNil) (gName 2))
    (tSeq (tIfS (tTest (tOp (rNeD K) (tVar 1) (tOp rRep (tLst (tCons (tC (.int 0)) tNil)) (tCB (Evl.rLenS K) (tCons (tVar 1) tNil))))) (tSeq (tAsg (tCall (sp_one_turned K) [] C8.E0 (tCons (tVar 1) tNil)) (gName 2))
    (tIfS (tTest (tOp rIsN (tVar 2) (tC .non))) (tAsg (tCall (sp_two_turned K) [] C8.E0 (tCons (tVar 1) tNil)) (gName 2)) tNext)) tNext)
    (tSeq (tIfS (tTest (tOp rIsN (tVar 2) (tC .non))) (tRet (tC .non)) tNext)
    (tSeq (tAsg (tCB (Evl.rListS K) (tCons (tVar 0) tNil)) (gName 3))
    (tSeq (tFor (iList K (tVar 2)) (gTup K 2 (gCons (gName 4) (gCons (gName 5) gNil)))
    (tAsg (tOp rModI (tOp rSubI (tOp (rIxL K) (tVar 3) (tVar 4)) (tVar 5)) (tC (.int 97))) (gSub (tVar 3) (tVar 4) rSetL)))
    (tRet (tVar 3))))))))
theorem sums_len (c : List Int) : (sumsM c).length = 6 := by unfold sumsM; simp
theorem sums_sig (c : List Int) : Sigs (sumsM c) := fun n h => by
  unfold sumsM at h
  obtain ⟨j, _, rfl⟩ := List.mem_map.mp h
  exact sig_mod _
theorem place_lt {x : Int} {p : Nat} (h : placeM x = some p) : p < 24 := List.mem_range.mp (List.mem_of_find?_eq_some h)
theorem one_lt {f : List Int} {ts : List (Int × Int)} (h : oneM f = some ts) : ∀ p ∈ ts, 0 ≤ p.1 ∧ p.1 < 24 := by
  unfold oneM at h
  split at h
  · cases h
  · dsimp only at h
    split at h
    · split at h
      · cases h
      · rename_i p hp
        have := place_lt hp
        cases h
        intro q hq
        rw [List.mem_singleton.mp hq]
        dsimp only
        omega
    · cases h
theorem two_lt {f : List Int} {ts : List (Int × Int)} (h : twoM f = some ts) : ∀ p ∈ ts, 0 ≤ p.1 ∧ p.1 < 24 := by
  unfold twoM at h
  split at h
  · cases h
  · have lt := @places_lt (sM f) (pM f)
    split at h
    · rename_i i j r hq
      split at h
      · cases h
        rw [hq] at lt
        have h1 : i < 24 := lt (by simp)
        have h2 : j < 24 := lt (by simp)
        intro q hq
        rcases List.mem_cons.mp hq with rfl | hq
        · dsimp only
          omega
        · rw [List.mem_singleton.mp hq]
          dsimp only
          omega
      · cases h
    · cases h
theorem turns_lt {f : List Int} {ts : List (Int × Int)} (h : turnsM f = some ts) : ∀ p ∈ ts, 0 ≤ p.1 ∧ p.1 < 24 := by
  unfold turnsM at h
  split at h
  · cases h
    intro p hp
    cases hp
  · split at h
    · rename_i t ht
      cases h
      exact one_lt ht
    · exact two_lt h
theorem unturn_len (c : List Int) (ts : List (Int × Int)) : (unturn c ts).length = c.length := by
  unfold unturn
  induction ts generalizing c with
  | nil => rfl
  | cons p ts ih => rw [List.foldl_cons, ih, List.length_set]
theorem unturn_snoc (c : List Int) (ts : List (Int × Int)) (p : Int × Int) : unturn c (ts ++ [p]) = (unturn c ts).set p.1.toNat (((unturn c ts).getD p.1.toNat 0 - p.2) % 97) := by
  unfold unturn
  rw [List.foldl_append]
  rfl
/-- None, or a list of pairs -/
def TurnsAt (K : PySem.W.Frag) (H : Hp) (v : V) (o : Option (List (Int × Int))) : Prop := match o with
  | none => v = .non
  | some ts => ∃ l xs, v = .ref l ∧ H l = some (.lst xs) ∧ ImAll K H xs (ts.map pairD)
theorem take_snoc {α : Type} {xs : List α} {i : Nat} {x : α} (h : xs[i]? = some x) : xs.take (i + 1) = xs.take i ++ [x] := by
  rw [List.take_add_one, h]
  rfl
theorem pure_mended (T : Wd K mg) (vs : List V) (H : Hp) (Q : VK) (E : XK) (h : sp_mended K vs H Q E) : t_mended K { nx := fun _ H' => Q .non H', rt := Q } (start ["cell", "found", "turns", "made", "place", "add"] vs) H := by
  obtain ⟨a, ns, rfl, hs, hl, hn, k⟩ := h
  refine q_asgL (el_troubles (ev_var rfl) hs hl hn) fun lf H1 _ e1 hf => ?_
  have fl := sums_len ns
  have fs := sums_sig ns
  have hs := ex_l e1 hs
  unfold mendM at k
  generalize sumsM ns = f at *
  have hf : SqL K H1 lf (f.map V.int) := sq_of hf
  refine q_asgL (xs := []) (el_lst ea_nil (Nat.zero_le _)) fun lt H2 _ e2 ht => ?_
  have hs := ex_l e2 hs
  have hf := ex_l e2 hf
  have ex2 : Ex H H2 := e1.trans e2
  refine seq_with (fun σ' H' => Ex H2 H' ∧ ∃ v, σ' = [some (.ref a), some (.ref lf), some v, none, none, none] ∧ TurnsAt K H' v (turnsM f)) (fun fin => ?_) ?_
  · refine q_when (b := !decide (f = List.replicate 6 0)) (et_test ?_) (fun h H3 e3 => ?_) (fun h H3 e3 => ?_)
    · refine ev_opL (xs := (List.replicate 6 (0 : Int)).map V.int) (ev_var rfl) (el_is (el_rep (k := 6) (el_lst (ea_cons ev_c ea_nil) (Nat.le_of_ble_eq_true rfl)) (ev_is (ev_len (ev_var rfl) hf) (by rw [List.length_map, fl]; rfl)) ⟨by decide, by decide, Nat.le_of_ble_eq_true rfl⟩) rfl) fun p H3 hp e3 => ?_
      have q := rv_neD (K := K) (H := H3) (dp_lints (ex_l e3 hf)) (dp_lints (ns := List.replicate 6 0) (sq_of hp)) (shaped_lints _) (shaped_lints _)
      rw [eqv_lints] at q
      exact q
    · have fz : ¬ f = List.replicate 6 0 := by
        intro z
        rw [decide_eq_true z] at h
        cases h
      have hf := ex_l e3 hf
      refine seq_with (fun σ' H' => Ex H3 H' ∧ ∃ v, σ' = [some (.ref a), some (.ref lf), some v, none, none, none] ∧ TurnsAt K H' v (oneM f)) (fun fin1 => ?_) ?_
      · refine s_asgO (D := { nx := _, rt := _ }) (er_one_turned (ev_var rfl) hf fl fs) ?_
        cases ho : oneM f with
        | none =>
          intro H4 e4
          refine fin1 _ _ ⟨e4, _, rfl, ?_⟩
          rw [ho]
          rfl
        | some ts =>
          intro l xs H4 e4 h4 i4
          refine fin1 _ _ ⟨e4, _, rfl, ?_⟩
          rw [ho]
          exact ⟨l, xs, rfl, h4, i4⟩
      · rintro σ' H4 ⟨e4, v, rfl, hv⟩
        have hf := ex_l e4 hf
        cases ho : oneM f with
        | none =>
          rw [ho] at hv
          cases hv
          refine s_when (b := true) (et_is (et_test (ev_isN (ev_var rfl))) rfl) (fun _ H5 e5 => ?_) (fun h => nomatch h)
          refine s_asgO (er_two_turned (ev_var rfl) (ex_l e5 hf) fl fs) ?_
          have et : turnsM f = twoM f := by
            unfold turnsM
            rw [if_neg fz, ho]
          cases ho2 : twoM f with
          | none =>
            intro H6 e6
            refine fin _ _ ⟨((e3.trans e4).trans e5).trans e6, _, rfl, ?_⟩
            rw [et, ho2]
            rfl
          | some ts =>
            intro l xs H6 e6 h6 i6
            refine fin _ _ ⟨((e3.trans e4).trans e5).trans e6, _, rfl, ?_⟩
            rw [et, ho2]
            exact ⟨l, xs, rfl, h6, i6⟩
        | some ts =>
          rw [ho] at hv
          obtain ⟨l, xs, rfl, h4, i4⟩ := hv
          refine s_when (b := false) (et_is (et_test (ev_isN (ev_var rfl))) rfl) (fun h => nomatch h) (fun _ H5 e5 => ?_)
          refine fin _ _ ⟨(e3.trans e4).trans e5, _, rfl, ?_⟩
          have et : turnsM f = some ts := by
            unfold turnsM
            rw [if_neg fz, ho]
          rw [et]
          exact ⟨l, xs, rfl, e5 _ _ h4, ImAll.ex e5 i4⟩
    · have fz : f = List.replicate 6 0 := by
        cases z : decide (f = List.replicate 6 0) with
        | true => exact of_decide_eq_true z
        | false => rw [z] at h; cases h
      refine fin _ _ ⟨e3, _, rfl, ?_⟩
      unfold turnsM
      rw [if_pos fz]
      exact ⟨lt, [], rfl, e3 _ _ ht, .nil⟩
  · rintro σ' H3 ⟨e3, v, rfl, hv⟩
    have hs := ex_l e3 hs
    cases ho : turnsM f with
    | none =>
      rw [ho] at hv k
      cases hv
      exact q_when (b := true) (et_is (et_test (ev_isN (ev_var rfl))) rfl) (fun _ H4 e4 => s_ret ev_c fun H5 e5 => k H5 (((ex2.trans e3).trans e4).trans e5)) (fun h => nomatch h)
    | some ts =>
      have tl := turns_lt ho
      rw [ho] at hv k
      obtain ⟨l, xs, rfl, h3, i3⟩ := hv
      refine q_when (b := false) (et_is (et_test (ev_isN (ev_var rfl))) rfl) (fun h => nomatch h) fun _ H4 e4 => ?_
      have hs := ex_l e4 hs
      have h4 : SqL K H4 l xs := sq_of (e4 _ _ h3)
      have i4 := ImAll.ex e4 i3
      refine q_asgL (xs := ns.map V.int) (el_list (ev_var rfl) hs) fun lm H5 hm e5 h5 => ?_
      have xl : xs.length = ts.length := by rw [i4.length, List.length_map]
      refine q_forL (ev_var rfl) (ex_l e5 h4) (fun i σ' H' => ∃ o1 o2, σ' = [some (.ref a), some (.ref lf), some (.ref l), some (.ref lm), o1, o2] ∧ Ex H4 H' ∧ H' lm = some (.lst ((unturn ns (ts.take i)).map V.int))) (fun H6 e6 => ⟨none, none, rfl, e5.trans e6, e6 _ _ h5⟩) ?_ ?_ ?_
      · rintro i σ' H' _ ⟨_, _, _, e, _⟩
        exact ex_l e h4
      · rintro i x σ' H' hx ⟨o1, o2, rfl, e, hm'⟩
        obtain ⟨d, hd, ix⟩ := i4.get hx
        rw [List.getElem?_map, Option.map_eq_some_iff] at hd
        obtain ⟨⟨p, q⟩, hp, rfl⟩ := hd
        obtain ⟨ta, ys, rfl, ht', hi'⟩ := Im.tup_inv (Im.ex e ix)
        have ey : ys = [.int p, .int q] := ImAll.ints_eq (ns := [p, q]) hi'
        subst ey
        have hb := tl _ (List.mem_of_getElem? hp)
        dsimp only at hb
        have ul := unturn_len ns (ts.take i)
        refine ⟨ta, [.int p, .int q], rfl, ht', rfl, _, _, rfl, _, _, rfl, rfl, ?_⟩
        refine s_setL (j := p.toNat) (v := .int (((unturn ns (ts.take i)).getD p.toNat 0 - q) % 97)) hm' (ev_op (ev_op (ev_op (ev_var rfl) (ev_var rfl) (rv_ixL (sq_of hm') (at_litz (k := p.toNat) (by omega) (by omega)))) (ev_var rfl) rv_I0) ev_c (rv_mod (by decide))) (ev_var rfl) (ev_is (ev_var rfl) (by rw [Int.toNat_of_nonneg hb.1])) (by rw [List.length_map]; omega) fun H6 e6 => ?_
        refine ⟨_, _, rfl, Ex.mut (e.trans e6) hm, ?_⟩
        rw [upd_same, take_snoc hp, unturn_snoc, List.map_set]
      · rintro σ' H' ⟨o1, o2, rfl, e, hm'⟩
        rw [xl, List.take_length] at hm'
        refine s_ret (ev_var rfl) fun H6 e6 => ?_
        exact k lm H6 (fresh_back ((ex2.trans e3).trans e4) hm) (((ex2.trans e3).trans e4).trans (e.trans e6)) (e6 _ _ hm')
section
variable {P : Program} {w : World} {K : PySem.W.Frag} {mg : Str → Option Value} {base : Heap}
theorem sc_mended : FnScope ["cell", "found", "turns", "made", "place", "add"] ["cell"] (defScope s_mended) := ⟨rfl, rfl, rfl, by decide +kernel, rfl, by decide +kernel, by decide +kernel⟩
theorem dr_mended (T : Wd K mg) (c_troubles : Cal P w K mg base 2 "troubles" (sp_troubles K) []) (c_one_turned : Cal P w K mg base 4 "one_turned" (sp_one_turned K) []) (c_two_turned : Cal P w K mg base 4 "two_turned" (sp_two_turned K) []) {f : Addr} {cdv : Value} {A : Around} {outer : List Env} {s : Shared} {H : Hp} {E : XK} (hr : Room 4 (A.deeper (envOfC "mended" (defScope s_mended) s.heap.objs.size f cdv))) :
    PSs (cxOf CX0 P w K mg base ["cell", "found", "turns", "made", "place", "add"] "mended" (defScope s_mended) f cdv A outer s H E).nox (defBody s_mended) (t_mended K) := by
  have nd := sc_mended.nd
  exact (pss_cons (ps_set (i := 1) nd rfl (by first | exact Or.inl rfl | exact Or.inr rfl) (pe_c c_troubles hr (by decide) rfl (pa_cons (pv 0) pa_nil)))
    (pss_cons (ps_set (i := 2) nd rfl (by first | exact Or.inl rfl | exact Or.inr rfl) (pe_lst pa_nil))
    (pss_cons (ps_if (pt_cmpR (op_neD hr.units) (pv 1) (pe_op op_rep (pe_lst (pa_cons pe_int pa_nil)) (pe_callB call_len_seq (by rfl) (T.free 97) (by decide +kernel) (pa_cons (pv 1) pa_nil))) (nomark _)) (pss_cons (ps_set (i := 2) nd rfl (by first | exact Or.inl rfl | exact Or.inr rfl) (pe_c c_one_turned hr (by decide) rfl (pa_cons (pv 1) pa_nil)))
    (pss_one (ps_if (pt_cmpR op_isN1 (pv 2) pe_non (nomark _)) (pss_one (ps_set (i := 2) nd rfl (by first | exact Or.inl rfl | exact Or.inr rfl) (pe_c c_two_turned hr (by decide) rfl (pa_cons (pv 1) pa_nil)))) pss_nil))) pss_nil)
    (pss_cons (ps_if (pt_cmpR op_isN1 (pv 2) pe_non (nomark _)) (pss_one (ps_ret pe_non)) pss_nil)
    (pss_cons (ps_set (i := 3) nd rfl (by first | exact Or.inl rfl | exact Or.inr rfl) (pe_callTy call_list_of (by rfl) (T.free 98) (by decide +kernel) (pa_cons (pv 0) pa_nil)))
    (pss_cons (ps_for PassesOwn.never rfl (pi_list (pv 2)) (pg_tup rfl (pgs_cons (pg_name (i := 4) nd rfl (by first | exact Or.inl rfl | exact Or.inr rfl)) (pgs_cons (pg_name (i := 5) nd rfl (by first | exact Or.inl rfl | exact Or.inr rfl)) pgs_nil)))
    (pss_one (ps_asg (pe_op op_mod (pe_op op_sub (pe_ix ix_list (pv 3) (pv 4) (fun _ _ => rfl)) (pv 5)) pe_int) (pg_sub (pv 3) (pv 4) set_list))))
    (pss_one (ps_ret (pv 3)))))))))
theorem ok_mended (T : Wd K mg) (c_troubles : Cal P w K mg base 2 "troubles" (sp_troubles K) []) (c_one_turned : Cal P w K mg base 4 "one_turned" (sp_one_turned K) []) (c_two_turned : Cal P w K mg base 4 "two_turned" (sp_two_turned K) []) {f : Addr} {fd : FuncData} (F : FunD K ds_mended.name ds_mended.qual ds_mended.params ds_mended.body ds_mended.scope [] [] f fd) : FnOk P w K mg base CX0 5 f fd ["cell"] (sp_mended K) := by
  refine FunD.ok F sc_mended (fun vs H Q E h => ?_) (fun cdv A outer s H vs Q E hr h => ⟨t_mended K, PSs.nox (dr_mended T c_troubles c_one_turned c_two_turned hr), pure_mended T vs H Q E h⟩)
  obtain ⟨_, _, e, _⟩ := h
  rw [e]
  all_goals rfl
end
end

end K85
end
section
set_option maxHeartbeats 400000
namespace K85
open PySem PySem.Spec PyProof.Rows
open L2 hiding CX0 E0 pass0
open C8 Evl
/-! ### tactics -/
local macro_rules | `(tactic| walk_at "side") => `(tactic| first | omega | assumption | rfl | decide)
local macro_rules | `(tactic| walk_at "at") => `(tactic| first | (refine at_int ?_ ?_ <;> first | omega | (simp; omega)) | assumption)
local macro_rules | `(tactic| walk_at "rv") => `(tactic| first
  | with_reducible exact rv_I0
  | ((with_reducible apply rv_eq); rfl)
  | ((with_reducible apply rv_ne); rfl)
  | ((with_reducible apply rv_mod); first | omega | decide)
  | ((with_reducible apply rv_mul); omega)
  | ((with_reducible apply rv_div); omega)
  | ((with_reducible apply rv_ixL); · assumption
     · walk_at "at")
  | ((with_reducible apply rv_ixT); · assumption
     · walk_at "at"))
local macro_rules | `(tactic| walk_at "ev") => `(tactic| first
  | ((with_reducible apply ev_var); rfl)
  | with_reducible exact ev_c
  | ((with_reducible apply ev_isN); walk_at "ev")
  | ((with_reducible apply ev_notN); walk_at "ev")
  | ((with_reducible apply ev_op); · walk_at "ev"
     · walk_at "ev"
     · walk_at "rv")
  | ((with_reducible apply ev_un); · walk_at "ev"
     · with_reducible exact ru_neg)
  | ((with_reducible apply ev_chain); · walk_at "ev"
     · walk_at "ev"
     · walk_at "rv"
     · intro _; walk_at "ev"
     · intro _; walk_at "rv")
  | ((with_reducible apply ev_len); · walk_at "ev"
     · assumption)
  | ((with_reducible apply ev_lenT); · walk_at "ev"
     · assumption)
  | ((with_reducible apply ev_andV); · walk_at "ev"
     · intro _; walk_at "ev")
  | with_reducible assumption)
local macro_rules | `(tactic| walk_at "evt") => `(tactic| first
  | ((with_reducible apply et_or); · walk_at "evt"
     · intro _; walk_at "evt")
  | ((with_reducible apply et_and); · walk_at "evt"
     · intro _; walk_at "evt")
  | ((with_reducible apply et_not); walk_at "evt")
  | ((with_reducible apply et_test); walk_at "ev")
  | ((with_reducible apply et_B); walk_at "ev")
  | with_reducible assumption)
local macro_rules | `(tactic| walk_at "bool") => `(tactic| first | rfl | (simp; done) | (simp; omega) | (simp; intros; omega) | grind)
section
variable {K : PySem.W.Frag} {mg : Str → Option Value}
/-! ### letters -/
def sp_are_signs (K : PySem.W.Frag) : Sp := fun vs H Q _ => ∃ (a : Addr) (ns : List Int), vs = [.ref a] ∧ (SqL K H a (ns.map V.int) ∨ SqT K H a (ns.map V.int)) ∧ Sigs ns ∧ RetV (.bl true) H Q
/-- are_signs -/
def t_are_signs (K : PySem.W.Frag) : TS :=
    (tSeq (tFor (iSeq K (tVar 0)) (gName 1)
    (tIfS (tOr (tTest (tOp rLtI (tVar 1) (tC (.int 0)))) (tTest (tOp rGeI (tVar 1) (tC (.int 97))))) (tRet (tC (.bl false))) tNext))
    (tRet (tC (.bl true))))
theorem pure_are_signs (_ : Wd K mg) (vs : List V) (H : Hp) (Q : VK) (E : XK) (h : sp_are_signs K vs H Q E) : t_are_signs K { nx := fun _ H' => Q .non H', rt := Q } (start ["numbers", "number"] vs) H := by
  obtain ⟨a, ns, rfl, hs, hn, k⟩ := h
  refine q_forS (ev_var rfl) hs (fun i σ' H' => Ex H H' ∧ ∃ o, σ' = [some (.ref a), o]) (fun H2 e2 => ⟨e2, none, rfl⟩) (fun i σ' H' _ p => p.1) ?_ (fun σ' H' p => s_ret ev_c fun H2 e2 => k H2 (p.1.trans e2))
  rintro i x σ' H' hx ⟨e, o, rfl⟩
  rw [List.getElem?_map, Option.map_eq_some_iff] at hx
  obtain ⟨n, hx, rfl⟩ := hx
  have hn := hn n (List.mem_of_getElem? hx)
  exact s_when (b := false) (et_is (by walk_at "evt") (by walk_at "bool")) (fun h => nomatch h) fun _ H2 e2 => ⟨e.trans e2, _, rfl⟩
section
variable {P : Program} {w : World} {K : PySem.W.Frag} {mg : Str → Option Value} {base : Heap}
theorem sc_are_signs : FnScope ["numbers", "number"] ["numbers"] (defScope s_are_signs) := ⟨rfl, rfl, rfl, by decide +kernel, rfl, by decide +kernel, by decide +kernel⟩
theorem dr_are_signs (T : Wd K mg) {f : Addr} {cdv : Value} {A : Around} {outer : List Env} {s : Shared} {H : Hp} {E : XK} (hr : Room 0 (A.deeper (envOfC "are_signs" (defScope s_are_signs) s.heap.objs.size f cdv))) :
    PSs (cxOf CX0 P w K mg base ["numbers", "number"] "are_signs" (defScope s_are_signs) f cdv A outer s H E).nox (defBody s_are_signs) (t_are_signs K) := by
  have nd := sc_are_signs.nd
  exact (pss_cons (ps_for PassesOwn.never rfl (pi_seq (pv 0)) (pg_name (i := 1) nd rfl (by first | exact Or.inl rfl | exact Or.inr rfl))
    (pss_one (ps_if (PW.pt (pw_or (pt_cmpR op_lt (pv 1) pe_int (nomark _)) (pw_or1 (pt_cmpR op_ge (pv 1) (pe_gc rfl (T.int 0)) (nomark _))))) (pss_one (ps_ret pe_bl)) pss_nil)))
    (pss_one (ps_ret pe_bl)))
theorem ok_are_signs (T : Wd K mg) {f : Addr} {fd : FuncData} (F : FunD K ds_are_signs.name ds_are_signs.qual ds_are_signs.params ds_are_signs.body ds_are_signs.scope [] [] f fd) : FnOk P w K mg base CX0 1 f fd ["numbers"] (sp_are_signs K) := by
  refine FunD.ok F sc_are_signs (fun vs H Q E h => ?_) (fun cdv A outer s H vs Q E hr h => ⟨t_are_signs K, PSs.nox (dr_are_signs T  hr), pure_are_signs T vs H Q E h⟩)
  obtain ⟨_, _, e, _⟩ := h
  rw [e]
  all_goals rfl
end
theorem ev_are_signs {σ : L2.St} {H : Hp} {te : TE} {a : Addr} {ns : List Int} (h : Ev te σ H (.ref a)) (hs : SqL K H a (ns.map V.int) ∨ SqT K H a (ns.map V.int)) (hn : Sigs ns) : Ev (tCall (sp_are_signs K) [] E0 (tCons te tNil)) σ H (.bl true) :=
  ev_call (ea_cons h ea_nil) fun _ e _ q _ => ⟨a, ns, rfl, hs.imp (ex_l e) (ex_t e), hn, q⟩
def Way (w : List Int) : Prop := 1 ≤ w.length ∧ w.length ≤ 6 ∧ w.Nodup ∧ ∀ h ∈ w, 0 ≤ h ∧ h < 32
def sp_is_way (K : PySem.W.Frag) : Sp := fun vs H Q _ => ∃ (a : Addr) (ns : List Int), vs = [.ref a] ∧ SqL K H a (ns.map V.int) ∧ Way ns ∧ RetV (.bl true) H Q
/-- is_way -/
def t_is_way (K : PySem.W.Frag) : TS :=
    (tSeq (tIfS (tOr (tTest (tOp rLtI (tCB (Evl.rLenS K) (tCons (tVar 0) tNil)) (tC (.int 1)))) (tOr (tTest (tOp rGtI (tCB (Evl.rLenS K) (tCons (tVar 0) tNil)) (tC (.int 6)))) (tTest (tOp rLtI (tLenSetA K (tVar 0)) (tCB (Evl.rLenS K) (tCons (tVar 0) tNil)))))) (tRet (tC (.bl false))) tNext)
    (tRet (tAndV (tOp rGeI (tCB (rMin K) (tCons (tVar 0) tNil)) (tC (.int 0))) (tOp rLtI (tCB (rMax K) (tCons (tVar 0) tNil)) (tC (.int 32))))))
theorem pure_is_way (_ : Wd K mg) (vs : List V) (H : Hp) (Q : VK) (E : XK) (h : sp_is_way K vs H Q E) : t_is_way K { nx := fun _ H' => Q .non H', rt := Q } (start ["way"] vs) H := by
  obtain ⟨a, ns, rfl, hs, ⟨w1, w2, nd, w3⟩, k⟩ := h
  have hl : Ev (tCB (Evl.rLenS K) (tCons (tVar 0) tNil)) [some (.ref a)] H (.int (ns.length : Int)) := ev_is (ev_len (ev_var rfl) hs) (by rw [List.length_map])
  refine q_when (b := false) (et_is (et_or (et_test (ev_op hl ev_c rv_I0)) (fun _ => et_or (et_test (ev_op hl ev_c rv_I0)) (fun _ => et_test (ev_op (ev_setI (ev_var rfl) (.inl hs) nd (by omega)) hl rv_I0)))) (by simp; omega)) (fun h => nomatch h) fun _ H1 e1 => ?_
  have hs := ex_l e1 hs
  refine s_ret (v := .bl true) (ev_andV (a := true) (b := true) ?_ (fun _ => ?_)) fun H2 e2 => k H2 (e1.trans e2)
  · intro H2 e2 Q q
    refine ⟨_, rfl, a, ns, rfl, ex_l e2 hs, w1, fun m hm _ => ⟨m, 0, rfl, rfl, ?_⟩⟩
    show Q (.bl (decide ((0 : Int) ≤ m))) H2
    rw [decide_eq_true (w3 m hm).1]
    exact q H2 (Ex.refl H2)
  · intro H2 e2 Q q
    refine ⟨_, rfl, a, ns, rfl, ex_l e2 hs, w1, fun m hm _ => ⟨m, 32, rfl, rfl, ?_⟩⟩
    show Q (.bl (decide (m < (32 : Int)))) H2
    rw [decide_eq_true (w3 m hm).2]
    exact q H2 (Ex.refl H2)
section
variable {P : Program} {w : World} {K : PySem.W.Frag} {mg : Str → Option Value} {base : Heap}
theorem sc_is_way : FnScope ["way"] ["way"] (defScope s_is_way) := ⟨rfl, rfl, rfl, by decide +kernel, rfl, by decide +kernel, by decide +kernel⟩
theorem dr_is_way (T : Wd K mg) {f : Addr} {cdv : Value} {A : Around} {outer : List Env} {s : Shared} {H : Hp} {E : XK} (hr : Room 0 (A.deeper (envOfC "is_way" (defScope s_is_way) s.heap.objs.size f cdv))) :
    PSs (cxOf CX0 P w K mg base ["way"] "is_way" (defScope s_is_way) f cdv A outer s H E).nox (defBody s_is_way) (t_is_way K) := by
  have nd := sc_is_way.nd
  exact (pss_cons (ps_if (PW.pt (pw_or (pt_cmpR op_lt (pe_callB call_len_seq (by rfl) (T.free 97) (by decide +kernel) (pa_cons (pv 0) pa_nil)) pe_int (nomark _)) (pw_or (pt_cmpR op_gt (pe_callB call_len_seq (by rfl) (T.free 97) (by decide +kernel) (pa_cons (pv 0) pa_nil)) (pe_gc rfl (T.int 2)) (nomark _)) (pw_or1 (pt_cmpR op_lt (pe_lenSetA (by rfl) (T.free 97) (by rfl) (T.free 103) (pv 0)) (pe_callB call_len_seq (by rfl) (T.free 97) (by decide +kernel) (pa_cons (pv 0) pa_nil)) (nomark _)))))) (pss_one (ps_ret pe_bl)) pss_nil)
    (pss_one (ps_ret (pe_and (pe_cmpR op_ge (pe_callB (cr_min rfl) (by rfl) (T.free 100) (by decide +kernel) (pa_cons (pv 0) pa_nil)) pe_int (nomark _)) (pe_one (pe_cmpR op_lt (pe_callB (cr_max rfl) (by rfl) (T.free 99) (by decide +kernel) (pa_cons (pv 0) pa_nil)) (pe_gc rfl (T.int 3)) (nomark _)))))))
theorem ok_is_way (T : Wd K mg) {f : Addr} {fd : FuncData} (F : FunD K ds_is_way.name ds_is_way.qual ds_is_way.params ds_is_way.body ds_is_way.scope [] [] f fd) : FnOk P w K mg base CX0 1 f fd ["way"] (sp_is_way K) := by
  refine FunD.ok F sc_is_way (fun vs H Q E h => ?_) (fun cdv A outer s H vs Q E hr h => ⟨t_is_way K, PSs.nox (dr_is_way T  hr), pure_is_way T vs H Q E h⟩)
  obtain ⟨_, _, e, _⟩ := h
  rw [e]
  all_goals rfl
end
theorem ev_is_way {σ : L2.St} {H : Hp} {te : TE} {a : Addr} {ns : List Int} (h : Ev te σ H (.ref a)) (hs : SqL K H a (ns.map V.int)) (hn : Way ns) : Ev (tCall (sp_is_way K) [] E0 (tCons te tNil)) σ H (.bl true) :=
  ev_call (ea_cons h ea_nil) fun _ e _ q _ => ⟨a, ns, rfl, ex_l e hs, hn, q⟩
structure Letter where
  count : Int
  way : List Int
  kind : Str
  about : List Int
  body : List Int
structure Letter.Ok (L : Letter) : Prop where
  c0 : 0 ≤ L.count
  c1 : L.count ≤ 900000
  way : Way L.way
  kind : L.kind ∈ kinL
  a1 : L.about.length ≤ 4
  a2 : Sigs L.about
  b1 : L.body.length ≤ 56
  b2 : Sigs L.body
def Letter.data (L : Letter) : PyData := .tuple [.int L.count, .tuple (L.way.map PyData.int), .str L.kind, .tuple (L.about.map PyData.int), .tuple (L.body.map PyData.int)]
theorem kin_in {k : Str} (h : k ∈ kinL) : inV (.str k) (kinL.map V.str) = true := by
  simp only [kinL, List.mem_cons, List.not_mem_nil, or_false] at h
  rcases h with rfl | rfl | rfl | rfl | rfl <;> decide +kernel
theorem kin_flat : (kinL.map V.str).all flatV = true := by decide
def sp_made_letter (K : PySem.W.Frag) : Sp := fun vs H Q _ => ∃ (L : Letter) (w a b : Addr), vs = [.int L.count, .ref w, .str L.kind, .ref a, .ref b] ∧ L.Ok ∧ SqL K H w (L.way.map V.int) ∧ (SqL K H a (L.about.map V.int) ∨ SqT K H a (L.about.map V.int)) ∧ (SqL K H b (L.body.map V.int) ∨ SqT K H b (L.body.map V.int)) ∧ RetI K L.data H Q
/-- made_letter -/
def t_made_letter (K : PySem.W.Frag) : TS :=
    (tSeq (tIfS (tOr (tTest (tOp rLtI (tVar 0) (tC (.int 0)))) (tOr (tTest (tOp rGtI (tVar 0) (tC (.int 900000)))) (tOr (tNot (tB (tCall (sp_is_way K) [] C8.E0 (tCons (tVar 1) tNil)))) (tTest (tOp (rIn K true) (tVar 2) (tC (.ref (He.ga K "KINDS")))))))) tNever tNext)
    (tSeq (tIfS (tOr (tTest (tOp rGtI (tCB (Evl.rLenS K) (tCons (tVar 3) tNil)) (tC (.int 4)))) (tOr (tTest (tOp rGtI (tCB (Evl.rLenS K) (tCons (tVar 4) tNil)) (tC (.int 56)))) (tOr (tNot (tB (tCall (sp_are_signs K) [] C8.E0 (tCons (tVar 3) tNil)))) (tNot (tB (tCall (sp_are_signs K) [] C8.E0 (tCons (tVar 4) tNil))))))) tNever tNext)
    (tRet (tTup (tCons (tVar 0) (tCons (tCB (rTupS K) (tCons (tVar 1) tNil)) (tCons (tVar 2) (tCons (tCB (rTupS K) (tCons (tVar 3) tNil)) (tCons (tCB (rTupS K) (tCons (tVar 4) tNil)) tNil)))))))))
theorem pure_made_letter (T : Wd K mg) (vs : List V) (H : Hp) (Q : VK) (E : XK) (h : sp_made_letter K vs H Q E) : t_made_letter K { nx := fun _ H' => Q .non H', rt := Q } (start ["count", "way", "kind", "about", "body"] vs) H := by
  obtain ⟨L, w, a, b, rfl, ok, hw, ha, hb, k⟩ := h
  have c0 := ok.c0
  have c1 := ok.c1
  have a1 := ok.a1
  have b1 := ok.b1
  have kn : Ev (tOp (rIn K true) (tVar 2) (tC (.ref (He.ga K "KINDS")))) [some (.int L.count), some (.ref w), some (.str L.kind), some (.ref a), some (.ref b)] H (.bl (!inV (.str L.kind) (kinL.map V.str))) := ev_op (ev_var rfl) ev_c (rv_niT (T.kin H) rfl kin_flat)
  rw [kin_in ok.kind] at kn
  refine q_when (b := false) (et_is (et_or (et_test (ev_op (ev_var rfl) ev_c rv_I0)) (fun _ => et_or (et_test (ev_op (ev_var rfl) ev_c rv_I0)) (fun _ => et_or (et_not (et_B (ev_is_way (ev_var rfl) hw ok.way))) (fun _ => et_test kn)))) (by simp; omega)) (fun h => nomatch h) fun _ H1 e1 => ?_
  have hw := ex_l e1 hw
  have ha := ha.imp (ex_l e1) (ex_t e1)
  have hb := hb.imp (ex_l e1) (ex_t e1)
  have la : Ev (tCB (Evl.rLenS K) (tCons (tVar 3) tNil)) [some (.int L.count), some (.ref w), some (.str L.kind), some (.ref a), some (.ref b)] H1 (.int (L.about.length : Int)) := ev_is (ev_lenA (ev_var rfl) ha) (by rw [List.length_map])
  have lb : Ev (tCB (Evl.rLenS K) (tCons (tVar 4) tNil)) [some (.int L.count), some (.ref w), some (.str L.kind), some (.ref a), some (.ref b)] H1 (.int (L.body.length : Int)) := ev_is (ev_lenA (ev_var rfl) hb) (by rw [List.length_map])
  refine q_when (b := false) (et_is (et_or (et_test (ev_op la ev_c rv_I0)) (fun _ => et_or (et_test (ev_op lb ev_c rv_I0)) (fun _ => et_or (et_not (et_B (ev_are_signs (ev_var rfl) ha ok.a2))) (fun _ => et_not (et_B (ev_are_signs (ev_var rfl) hb ok.b2)))))) (by simp; omega)) (fun h => nomatch h) fun _ H2 e2 => ?_
  have hw := ex_l e2 hw
  have ha := ha.imp (ex_l e2) (ex_t e2)
  have hb := hb.imp (ex_l e2) (ex_t e2)
  refine s_retI (K := K) (d := L.data) (evi_tup (evi_cons (evi_int (ev_var rfl)) (evi_cons (evi_tupOf (ev_var rfl) (.inl hw) (ImAll.ints _)) (evi_cons (evi_of (ev_var rfl) (.str _)) (evi_cons (evi_tupOf (ev_var rfl) ha (ImAll.ints _)) (evi_cons (evi_tupOf (ev_var rfl) hb (ImAll.ints _)) evi_nil))))) (Nat.le_of_ble_eq_true rfl)) fun v H3 e3 i3 => k v H3 ((e1.trans e2).trans e3) i3
section
variable {P : Program} {w : World} {K : PySem.W.Frag} {mg : Str → Option Value} {base : Heap}
theorem sc_made_letter : FnScope ["count", "way", "kind", "about", "body"] ["count", "way", "kind", "about", "body"] (defScope s_made_letter) := ⟨rfl, rfl, rfl, by decide +kernel, rfl, by decide +kernel, by decide +kernel⟩
theorem dr_made_letter (T : Wd K mg) (c_is_way : Cal P w K mg base 1 "is_way" (sp_is_way K) []) (c_are_signs : Cal P w K mg base 1 "are_signs" (sp_are_signs K) []) {f : Addr} {cdv : Value} {A : Around} {outer : List Env} {s : Shared} {H : Hp} {E : XK} (hr : Room 1 (A.deeper (envOfC "made_letter" (defScope s_made_letter) s.heap.objs.size f cdv))) :
    PSs (cxOf CX0 P w K mg base ["count", "way", "kind", "about", "body"] "made_letter" (defScope s_made_letter) f cdv A outer s H E).nox (defBody s_made_letter) (t_made_letter K) := by
  have nd := sc_made_letter.nd
  exact (pss_cons (ps_if (PW.pt (pw_or (pt_cmpR op_lt (pv 0) pe_int (nomark _)) (pw_or (pt_cmpR op_gt (pv 0) (pe_gc rfl (T.int 1)) (nomark _)) (pw_or (pt_not (pt_val (pe_c c_is_way hr (by decide) rfl (pa_cons (pv 1) pa_nil)))) (pw_or1 (pt_cmpR op_notIn_seq (pv 2) (pe_gc rfl (T.glo 4)) (by rfl))))))) pss_never pss_nil)
    (pss_cons (ps_if (PW.pt (pw_or (pt_cmpR op_gt (pe_callB call_len_seq (by rfl) (T.free 97) (by decide +kernel) (pa_cons (pv 3) pa_nil)) (pe_gc rfl (T.int 5)) (nomark _)) (pw_or (pt_cmpR op_gt (pe_callB call_len_seq (by rfl) (T.free 97) (by decide +kernel) (pa_cons (pv 4) pa_nil)) (pe_gc rfl (T.int 6)) (nomark _)) (pw_or (pt_not (pt_val (pe_c c_are_signs hr (by decide) rfl (pa_cons (pv 3) pa_nil)))) (pw_or1 (pt_not (pt_val (pe_c c_are_signs hr (by decide) rfl (pa_cons (pv 4) pa_nil))))))))) pss_never pss_nil)
    (pss_one (ps_ret (pe_tup (pa_cons (pv 0) (pa_cons (pe_callTy call_tuple_of (by rfl) (T.free 106) (by decide +kernel) (pa_cons (pv 1) pa_nil)) (pa_cons (pv 2) (pa_cons (pe_callTy call_tuple_of (by rfl) (T.free 106) (by decide +kernel) (pa_cons (pv 3) pa_nil)) (pa_cons (pe_callTy call_tuple_of (by rfl) (T.free 106) (by decide +kernel) (pa_cons (pv 4) pa_nil)) pa_nil))))))))))
theorem ok_made_letter (T : Wd K mg) (c_is_way : Cal P w K mg base 1 "is_way" (sp_is_way K) []) (c_are_signs : Cal P w K mg base 1 "are_signs" (sp_are_signs K) []) {f : Addr} {fd : FuncData} (F : FunD K ds_made_letter.name ds_made_letter.qual ds_made_letter.params ds_made_letter.body ds_made_letter.scope [] [] f fd) : FnOk P w K mg base CX0 2 f fd ["count", "way", "kind", "about", "body"] (sp_made_letter K) := by
  refine FunD.ok F sc_made_letter (fun vs H Q E h => ?_) (fun cdv A outer s H vs Q E hr h => ⟨t_made_letter K, PSs.nox (dr_made_letter T c_is_way c_are_signs hr), pure_made_letter T vs H Q E h⟩)
  obtain ⟨_, _, _, _, e, _⟩ := h
  rw [e]
  all_goals rfl
end
def kIx (k : Str) : Nat := kinL.idxOf k
theorem kIx_ok {k : Str} (h : k ∈ kinL) : kIx k < 5 ∧ kinL[kIx k]? = some k ∧ ∀ m, m < kIx k → kinL[m]? ≠ some k := by
  simp only [kinL, List.mem_cons, List.not_mem_nil, or_false] at h
  rcases h with rfl | rfl | rfl | rfl | rfl <;> decide +kernel
def Letter.signs (L : Letter) : List Int := [L.count / 97 / 97, L.count / 97 % 97, L.count % 97, (L.way.length : Int) * 5 + (kIx L.kind : Int)] ++ (L.way ++ ([(L.about.length : Int)] ++ (L.about ++ L.body)))
theorem letter_inv {H : Hp} {v : V} {L : Letter} (h : Im K H v L.data) : ∃ p w a b, v = .ref p ∧ SqT K H p [.int L.count, .ref w, .str L.kind, .ref a, .ref b] ∧ SqT K H w (L.way.map V.int) ∧ SqT K H a (L.about.map V.int) ∧ SqT K H b (L.body.map V.int) := by
  obtain ⟨p, xs, rfl, hp, hi⟩ := Im.tup_inv h
  cases hi with
  | cons h1 hi =>
    cases hi with
    | cons h2 hi =>
      cases hi with
      | cons h3 hi =>
        cases hi with
        | cons h4 hi =>
          cases hi with
          | cons h5 hi =>
            cases hi
            cases h1
            cases h3
            obtain ⟨w, x2, rfl, hw, i2⟩ := Im.tup_inv h2
            obtain ⟨a, x4, rfl, ha, i4⟩ := Im.tup_inv h4
            obtain ⟨b, x5, rfl, hb, i5⟩ := Im.tup_inv h5
            rw [ImAll.ints_eq i2] at hw
            rw [ImAll.ints_eq i4] at ha
            rw [ImAll.ints_eq i5] at hb
            exact ⟨p, w, a, b, rfl, hp, hw, ha, hb⟩
def sp_letter_signs (K : PySem.W.Frag) : Sp := fun vs H Q _ => ∃ (v : V) (L : Letter), vs = [v] ∧ Im K H v L.data ∧ L.Ok ∧ RetL (L.signs.map V.int) H Q
/-- letter_signs -/
def t_letter_signs (K : PySem.W.Frag) : TS :=
    (tSeq (tAsg (tVar 0) (gTup K 5 (gCons (gName 1) (gCons (gName 2) (gCons (gName 3) (gCons (gName 4) (gCons (gName 5) gNil)))))))
    (tSeq (tAsg (tLst (tCons (tOp rDivI (tOp rDivI (tVar 1) (tC (.int 97))) (tC (.int 97))) (tCons (tOp rModI (tOp rDivI (tVar 1) (tC (.int 97))) (tC (.int 97))) (tCons (tOp rModI (tVar 1) (tC (.int 97))) tNil)))) (gName 6))
    (tSeq (tDrop (tBM K "list" rAppend (tVar 6) (tCons (tOp rAddI (tOp rMulI (tCB (Evl.rLenS K) (tCons (tVar 2) tNil)) (tCB (Evl.rLenS K) (tCons (tC (.ref (He.ga K "KINDS"))) tNil))) (tBM K "tuple" (rTIx K) (tC (.ref (He.ga K "KINDS"))) (tCons (tVar 3) tNil))) tNil)))
    (tSeq (tDrop (tBM K "list" (rExtS K) (tVar 6) (tCons (tVar 2) tNil)))
    (tSeq (tDrop (tBM K "list" rAppend (tVar 6) (tCons (tCB (Evl.rLenS K) (tCons (tVar 4) tNil)) tNil)))
    (tSeq (tDrop (tBM K "list" (rExtS K) (tVar 6) (tCons (tVar 4) tNil)))
    (tSeq (tDrop (tBM K "list" (rExtS K) (tVar 6) (tCons (tVar 5) tNil)))
    (tRet (tVar 6)))))))))
theorem pure_letter_signs (T : Wd K mg) (vs : List V) (H : Hp) (Q : VK) (E : XK) (h : sp_letter_signs K vs H Q E) : t_letter_signs K { nx := fun _ H' => Q .non H', rt := Q } (start ["letter", "count", "way", "kind", "about", "body", "signs"] vs) H := by
  obtain ⟨v, L, rfl, hi, ok, k⟩ := h
  obtain ⟨p, w, a, b, rfl, hp, hw, ha, hb⟩ := letter_inv hi
  have w2 := ok.way.2.1
  have a1 := ok.a1
  have b1 := ok.b1
  have hk := kIx_ok ok.kind
  refine ⟨_, rfl, p, _, rfl, hp, rfl, _, _, rfl, _, _, rfl, _, _, rfl, _, _, rfl, _, _, rfl, rfl, ?_⟩
  refine q_asgL (xs := [.int (L.count / 97 / 97), .int (L.count / 97 % 97), .int (L.count % 97)]) (el_lst (ea_cons (ev_op (ev_op (ev_var rfl) ev_c (rv_div (by decide))) ev_c (rv_div (by decide))) (ea_cons (ev_op (ev_op (ev_var rfl) ev_c (rv_div (by decide))) ev_c (rv_mod (by decide))) (ea_cons (ev_op (ev_var rfl) ev_c (rv_mod (by decide))) ea_nil))) (Nat.le_of_ble_eq_true rfl)) fun l H1 hl e1 h1 => ?_
  refine q_app h1 (ev_var rfl) (v := .int ((L.way.length : Int) * 5 + (kIx L.kind : Int))) ?_ (Nat.le_of_ble_eq_true rfl) fun H2 e2 => ?_
  · refine ev_op (ev_op (ev_is (ev_lenT (ev_var rfl) (ex_t e1 hw)) (by rw [List.length_map])) (ev_lenT ev_c (T.kin H1)) (rv_mul (by simp [kinL]))) ?_ rv_I0
    intro H9 e9 Q q
    exact ⟨T.kinT H9, _, rfl, _, kinL, L.kind, kIx L.kind, rfl, rfl, T.kin H9, hk.2.1, hk.2.2, q H9 (Ex.refl H9)⟩
  have x2 : Ex H (upd H2 l (.lst ([.int (L.count / 97 / 97), .int (L.count / 97 % 97), .int (L.count % 97)] ++ [.int ((L.way.length : Int) * 5 + (kIx L.kind : Int))]))) := Ex.mut (e1.trans e2) hl
  refine q_ext upd_same (ev_var rfl) (ev_var rfl) (.inr (ex_t x2 hw)) (by simp; omega) fun H3 e3 => ?_
  have x3 := Ex.mut (o := .lst (([.int (L.count / 97 / 97), .int (L.count / 97 % 97), .int (L.count % 97)] ++ [.int ((L.way.length : Int) * 5 + (kIx L.kind : Int))]) ++ L.way.map V.int)) (x2.trans e3) hl
  refine q_app upd_same (ev_var rfl) (v := .int (L.about.length : Int)) (ev_is (ev_lenT (ev_var rfl) (ex_t x3 ha)) (by rw [List.length_map])) (by simp; omega) fun H4 e4 => ?_
  have x4 := Ex.mut (o := .lst ((([.int (L.count / 97 / 97), .int (L.count / 97 % 97), .int (L.count % 97)] ++ [.int ((L.way.length : Int) * 5 + (kIx L.kind : Int))]) ++ L.way.map V.int) ++ [.int (L.about.length : Int)])) (x3.trans e4) hl
  refine q_ext upd_same (ev_var rfl) (ev_var rfl) (.inr (ex_t x4 ha)) (by simp; omega) fun H5 e5 => ?_
  have x5 := Ex.mut (o := .lst (((([.int (L.count / 97 / 97), .int (L.count / 97 % 97), .int (L.count % 97)] ++ [.int ((L.way.length : Int) * 5 + (kIx L.kind : Int))]) ++ L.way.map V.int) ++ [.int (L.about.length : Int)]) ++ L.about.map V.int)) (x4.trans e5) hl
  refine q_ext upd_same (ev_var rfl) (ev_var rfl) (.inr (ex_t x5 hb)) (by simp; omega) fun H6 e6 => ?_
  refine s_ret (ev_var rfl) fun H7 e7 => k l H7 hl ((Ex.mut (x5.trans e6) hl).trans e7) ?_
  rw [e7 _ _ upd_same]
  unfold Letter.signs
  simp
section
variable {P : Program} {w : World} {K : PySem.W.Frag} {mg : Str → Option Value} {base : Heap}
theorem sc_letter_signs : FnScope ["letter", "count", "way", "kind", "about", "body", "signs"] ["letter"] (defScope s_letter_signs) := ⟨rfl, rfl, rfl, by decide +kernel, rfl, by decide +kernel, by decide +kernel⟩
theorem dr_letter_signs (T : Wd K mg) {f : Addr} {cdv : Value} {A : Around} {outer : List Env} {s : Shared} {H : Hp} {E : XK} (hr : Room 0 (A.deeper (envOfC "letter_signs" (defScope s_letter_signs) s.heap.objs.size f cdv))) :
    PSs (cxOf CX0 P w K mg base ["letter", "count", "way", "kind", "about", "body", "signs"] "letter_signs" (defScope s_letter_signs) f cdv A outer s H E).nox (defBody s_letter_signs) (t_letter_signs K) := by
  have nd := sc_letter_signs.nd
  exact (pss_cons (ps_asg (pv 0) (pg_tup rfl (pgs_cons (pg_name (i := 1) nd rfl (by first | exact Or.inl rfl | exact Or.inr rfl)) (pgs_cons (pg_name (i := 2) nd rfl (by first | exact Or.inl rfl | exact Or.inr rfl)) (pgs_cons (pg_name (i := 3) nd rfl (by first | exact Or.inl rfl | exact Or.inr rfl)) (pgs_cons (pg_name (i := 4) nd rfl (by first | exact Or.inl rfl | exact Or.inr rfl)) (pgs_cons (pg_name (i := 5) nd rfl (by first | exact Or.inl rfl | exact Or.inr rfl)) pgs_nil)))))))
    (pss_cons (ps_set (i := 6) nd rfl (by first | exact Or.inl rfl | exact Or.inr rfl) (pe_lst (pa_cons (pe_op op_fdiv (pe_op op_fdiv (pv 1) (pe_gc rfl (T.int 0))) (pe_gc rfl (T.int 0))) (pa_cons (pe_op op_mod (pe_op op_fdiv (pv 1) (pe_gc rfl (T.int 0))) (pe_gc rfl (T.int 0))) (pa_cons (pe_op op_mod (pv 1) (pe_gc rfl (T.int 0))) pa_nil)))))
    (pss_cons (ps_expr (pe_bm PySem.F.plainAttrs_list PySem.F.slot_list_append PySem.F.type_list_append mt_append (pv 6) (pa_cons (pe_op op_add (pe_op op_mul (pe_callB call_len_seq (by rfl) (T.free 97) (by decide +kernel) (pa_cons (pv 2) pa_nil)) (pe_callB call_len_seq (by rfl) (T.free 97) (by decide +kernel) (pa_cons (pe_gc rfl (T.glo 4)) pa_nil))) (pe_bm PySem.F.plainAttrs_tuple PySem.F.slot_tuple_index PySem.F.type_tuple_index mt_tup_index (pe_gc rfl (T.glo 4)) (pa_cons (pv 3) pa_nil))) pa_nil)))
    (pss_cons (ps_expr (pe_bm PySem.F.plainAttrs_list PySem.F.slot_list_extend PySem.F.type_list_extend mt_extendS (pv 6) (pa_cons (pv 2) pa_nil)))
    (pss_cons (ps_expr (pe_bm PySem.F.plainAttrs_list PySem.F.slot_list_append PySem.F.type_list_append mt_append (pv 6) (pa_cons (pe_callB call_len_seq (by rfl) (T.free 97) (by decide +kernel) (pa_cons (pv 4) pa_nil)) pa_nil)))
    (pss_cons (ps_expr (pe_bm PySem.F.plainAttrs_list PySem.F.slot_list_extend PySem.F.type_list_extend mt_extendS (pv 6) (pa_cons (pv 4) pa_nil)))
    (pss_cons (ps_expr (pe_bm PySem.F.plainAttrs_list PySem.F.slot_list_extend PySem.F.type_list_extend mt_extendS (pv 6) (pa_cons (pv 5) pa_nil)))
    (pss_one (ps_ret (pv 6))))))))))
theorem ok_letter_signs (T : Wd K mg) {f : Addr} {fd : FuncData} (F : FunD K ds_letter_signs.name ds_letter_signs.qual ds_letter_signs.params ds_letter_signs.body ds_letter_signs.scope [] [] f fd) : FnOk P w K mg base CX0 1 f fd ["letter"] (sp_letter_signs K) := by
  refine FunD.ok F sc_letter_signs (fun vs H Q E h => ?_) (fun cdv A outer s H vs Q E hr h => ⟨t_letter_signs K, PSs.nox (dr_letter_signs T  hr), pure_letter_signs T vs H Q E h⟩)
  obtain ⟨_, _, e, _⟩ := h
  rw [e]
  all_goals rfl
end
theorem el_letter_signs {σ : L2.St} {H : Hp} {te : TE} {v : V} {L : Letter} (h : Ev te σ H v) (hi : Im K H v L.data) (ok : L.Ok) : EvL (tCall (sp_letter_signs K) [] E0 (tCons te tNil)) σ H (L.signs.map V.int) :=
  el_call (ea_cons h ea_nil) fun _ e _ q _ => ⟨v, L, rfl, Im.ex e hi, ok, q⟩
def sp_taken_from (K : PySem.W.Frag) : Sp := fun vs H Q _ => ∃ (a : Addr) (xs : List V) (i j : Nat), vs = [.ref a, .int (i : Int), .int (j : Int)] ∧ SqL K H a xs ∧ i + j ≤ xs.length ∧ RetL ((xs.drop i).take j) H Q
/-- taken_from -/
def t_taken_from (K : PySem.W.Frag) : TS :=
    (tSeq (tIfS (tTest (tOp rGtI (tOp rAddI (tVar 1) (tVar 2)) (tCB (Evl.rLenS K) (tCons (tVar 0) tNil)))) tNever tNext)
    (tRet (tSl (rSlL K) (tVar 0) (tPart (tVar 1)) (tPart (tOp rAddI (tVar 1) (tVar 2))))))
theorem pure_taken_from (T : Wd K mg) (vs : List V) (H : Hp) (Q : VK) (E : XK) (h : sp_taken_from K vs H Q E) : t_taken_from K { nx := fun _ H' => Q .non H', rt := Q } (start ["signs", "first", "many"] vs) H := by
  obtain ⟨a, xs, i, j, rfl, hs, hl, k⟩ := h
  refine q_when (b := false) (et_is (by walk_at "evt") (by simp; omega)) (fun h => nomatch h) fun _ H1 e1 => ?_
  have hs := ex_l e1 hs
  refine s_retL (xs := (xs.drop i).take j) (el_is (el_sl (ev_var rfl) (eo_some (ev_var rfl)) (eo_some (i := ((i + j : Nat) : Int)) (ev_is (ev_op (ev_var rfl) (ev_var rfl) rv_I0) (by rw [Int.natCast_add]))) hs) (cut_nat hl)) fun p H2 hp e h => k p H2 (fresh_back e1 hp) (e1.trans e) h
section
variable {P : Program} {w : World} {K : PySem.W.Frag} {mg : Str → Option Value} {base : Heap}
theorem sc_taken_from : FnScope ["signs", "first", "many"] ["signs", "first", "many"] (defScope s_taken_from) := ⟨rfl, rfl, rfl, by decide +kernel, rfl, by decide +kernel, by decide +kernel⟩
theorem dr_taken_from (T : Wd K mg) {f : Addr} {cdv : Value} {A : Around} {outer : List Env} {s : Shared} {H : Hp} {E : XK} (hr : Room 0 (A.deeper (envOfC "taken_from" (defScope s_taken_from) s.heap.objs.size f cdv))) :
    PSs (cxOf CX0 P w K mg base ["signs", "first", "many"] "taken_from" (defScope s_taken_from) f cdv A outer s H E).nox (defBody s_taken_from) (t_taken_from K) := by
  have nd := sc_taken_from.nd
  exact (pss_cons (ps_if (pt_cmpR op_gt (pe_op op_add (pv 1) (pv 2)) (pe_callB call_len_seq (by rfl) (T.free 97) (by decide +kernel) (pa_cons (pv 0) pa_nil)) (nomark _)) pss_never pss_nil)
    (pss_one (ps_ret (pe_slice sl_list (pv 0) (po_some (pv 1)) (po_some (pe_op op_add (pv 1) (pv 2)))))))
theorem ok_taken_from (T : Wd K mg) {f : Addr} {fd : FuncData} (F : FunD K ds_taken_from.name ds_taken_from.qual ds_taken_from.params ds_taken_from.body ds_taken_from.scope [] [] f fd) : FnOk P w K mg base CX0 1 f fd ["signs", "first", "many"] (sp_taken_from K) := by
  refine FunD.ok F sc_taken_from (fun vs H Q E h => ?_) (fun cdv A outer s H vs Q E hr h => ⟨t_taken_from K, PSs.nox (dr_taken_from T  hr), pure_taken_from T vs H Q E h⟩)
  obtain ⟨_, _, _, _, e, _⟩ := h
  rw [e]
  all_goals rfl
end
theorem el_taken_from {σ : L2.St} {H : Hp} {ta tb tc : TE} {a : Addr} {xs : List V} {i j : Nat} (h : Ev ta σ H (.ref a)) (h1 : Ev tb σ H (.int (i : Int))) (h2 : Ev tc σ H (.int (j : Int))) (hs : SqL K H a xs) (hl : i + j ≤ xs.length) : EvL (tCall (sp_taken_from K) [] E0 (tCons ta (tCons tb (tCons tc tNil)))) σ H ((xs.drop i).take j) :=
  el_call (ea_cons h (ea_cons h1 (ea_cons h2 ea_nil))) fun _ e _ q _ => ⟨a, xs, i, j, rfl, ex_l e hs, hl, q⟩
end

end K85
end
section
set_option maxHeartbeats 400000
namespace K85
open PySem PySem.Spec PyProof.Rows
open L2 hiding CX0 E0 pass0
open C8 Evl
/-! ### tactics -/
local macro_rules | `(tactic| walk_at "side") => `(tactic| first | omega | assumption | rfl | decide)
local macro_rules | `(tactic| walk_at "at") => `(tactic| first | (refine at_int ?_ ?_ <;> first | omega | (simp; omega)) | assumption)
local macro_rules | `(tactic| walk_at "rv") => `(tactic| first
  | with_reducible exact rv_I0
  | ((with_reducible apply rv_eq); rfl)
  | ((with_reducible apply rv_ne); rfl)
  | ((with_reducible apply rv_mod); first | omega | decide)
  | ((with_reducible apply rv_mul); omega)
  | ((with_reducible apply rv_div); omega)
  | ((with_reducible apply rv_ixL); · assumption
     · walk_at "at")
  | ((with_reducible apply rv_ixT); · assumption
     · walk_at "at"))
local macro_rules | `(tactic| walk_at "ev") => `(tactic| first
  | ((with_reducible apply ev_var); rfl)
  | with_reducible exact ev_c
  | ((with_reducible apply ev_isN); walk_at "ev")
  | ((with_reducible apply ev_notN); walk_at "ev")
  | ((with_reducible apply ev_op); · walk_at "ev"
     · walk_at "ev"
     · walk_at "rv")
  | ((with_reducible apply ev_un); · walk_at "ev"
     · with_reducible exact ru_neg)
  | ((with_reducible apply ev_chain); · walk_at "ev"
     · walk_at "ev"
     · walk_at "rv"
     · intro _; walk_at "ev"
     · intro _; walk_at "rv")
  | ((with_reducible apply ev_len); · walk_at "ev"
     · assumption)
  | ((with_reducible apply ev_lenT); · walk_at "ev"
     · assumption)
  | ((with_reducible apply ev_andV); · walk_at "ev"
     · intro _; walk_at "ev")
  | with_reducible assumption)
local macro_rules | `(tactic| walk_at "evt") => `(tactic| first
  | ((with_reducible apply et_or); · walk_at "evt"
     · intro _; walk_at "evt")
  | ((with_reducible apply et_and); · walk_at "evt"
     · intro _; walk_at "evt")
  | ((with_reducible apply et_not); walk_at "evt")
  | ((with_reducible apply et_test); walk_at "ev")
  | ((with_reducible apply et_B); walk_at "ev")
  | with_reducible assumption)
local macro_rules | `(tactic| walk_at "bool") => `(tactic| first | rfl | (simp; done) | (simp; omega) | (simp; intros; omega) | grind)
section
variable {K : PySem.W.Frag} {mg : Str → Option Value}
theorem letter_cut (L : Letter) : let xs := L.signs.map V.int; let n := L.way.length
    (xs.drop 0).take 4 = [.int (L.count / 97 / 97), .int (L.count / 97 % 97), .int (L.count % 97), .int ((n : Int) * 5 + (kIx L.kind : Int))] ∧
    (xs.drop 4).take n = L.way.map V.int ∧ (xs.drop (4 + n)).take 1 = [.int (L.about.length : Int)] ∧ (xs.drop (5 + n)).take L.about.length = L.about.map V.int ∧ xs.drop (5 + n + L.about.length) = L.body.map V.int ∧
    xs.length = 5 + n + L.about.length + L.body.length := by
  intro xs n
  have e1 : xs = [.int (L.count / 97 / 97), .int (L.count / 97 % 97), .int (L.count % 97), .int ((n : Int) * 5 + (kIx L.kind : Int))] ++ (L.way.map V.int ++ ([.int (L.about.length : Int)] ++ (L.about.map V.int ++ L.body.map V.int))) := by
    show L.signs.map V.int = _
    unfold Letter.signs
    rw [List.map_append, List.map_append, List.map_append, List.map_append]
    rfl
  have hw : (L.way.map V.int).length = n := List.length_map ..
  have ha : (L.about.map V.int).length = L.about.length := List.length_map ..
  have hb : (L.body.map V.int).length = L.body.length := List.length_map ..
  refine ⟨by rw [e1]; rfl, ?_, ?_, ?_, ?_, ?_⟩
  · rw [e1, List.drop_left' (by rfl), List.take_left' hw]
  · rw [e1, ← List.append_assoc, List.drop_left' (by rw [List.length_append, hw]; rfl)]
    rfl
  · rw [e1, ← List.append_assoc, ← List.append_assoc, List.drop_left' (by rw [List.length_append, List.length_append, hw]; show 4 + n + 1 = 5 + n; omega), List.take_left' ha]
  · rw [e1, ← List.append_assoc, ← List.append_assoc, ← List.append_assoc, List.drop_left' (by rw [List.length_append, List.length_append, List.length_append, hw, ha]; show 4 + n + 1 + _ = 5 + n + _; omega)]
  · rw [e1, List.length_append, List.length_append, List.length_append, List.length_append, hw, ha, hb]
    show 4 + (n + (1 + (_ + _))) = _
    omega
theorem letter_sigs {L : Letter} (ok : L.Ok) : Sigs L.signs := by
  have hk := (kIx_ok ok.kind).1
  have c0 := ok.c0
  have c1 := ok.c1
  have w2 := ok.way.2.1
  have a1 := ok.a1
  intro n hn
  unfold Letter.signs at hn
  rcases List.mem_append.mp hn with hn | hn
  · simp only [List.mem_cons, List.not_mem_nil, or_false] at hn
    rcases hn with rfl | rfl | rfl | rfl <;> omega
  · rcases List.mem_append.mp hn with hn | hn
    · have := ok.way.2.2.2 n hn
      omega
    · rcases List.mem_append.mp hn with hn | hn
      · rw [List.mem_singleton.mp hn]
        omega
      · rcases List.mem_append.mp hn with hn | hn
        · exact ok.a2 n hn
        · exact ok.b2 n hn
def sp_letter_of (K : PySem.W.Frag) : Sp := fun vs H Q _ => ∃ (a : Addr) (L : Letter), vs = [.ref a] ∧ SqL K H a (L.signs.map V.int) ∧ L.Ok ∧ RetI K L.data H Q
/-- letter_of -/
def t_letter_of (K : PySem.W.Frag) : TS :=
    (tSeq (tIfS (tNot (tB (tCall (sp_are_signs K) [] C8.E0 (tCons (tVar 0) tNil)))) tNever tNext)
    (tSeq (tAsg (tCall (sp_taken_from K) [] C8.E0 (tCons (tVar 0) (tCons (tC (.int 0)) (tCons (tC (.int 4)) tNil)))) (gUnl K 4 (gCons (gName 1) (gCons (gName 2) (gCons (gName 3) (gCons (gName 4) gNil))))))
    (tSeq (tAsg (tOp rDivI (tVar 4) (tCB (Evl.rLenS K) (tCons (tC (.ref (He.ga K "KINDS"))) tNil))) (gName 5))
    (tSeq (tAsg (tCall (sp_taken_from K) [] C8.E0 (tCons (tVar 0) (tCons (tC (.int 4)) (tCons (tVar 5) tNil)))) (gName 6))
    (tSeq (tAsg (tOp (rIxL K) (tCall (sp_taken_from K) [] C8.E0 (tCons (tVar 0) (tCons (tOp rAddI (tC (.int 4)) (tVar 5)) (tCons (tC (.int 1)) tNil)))) (tC (.int 0))) (gName 7))
    (tSeq (tAsg (tCall (sp_taken_from K) [] C8.E0 (tCons (tVar 0) (tCons (tOp rAddI (tC (.int 5)) (tVar 5)) (tCons (tVar 7) tNil)))) (gName 8))
    (tSeq (tAsg (tSl (rSlL K) (tVar 0) (tPart (tOp rAddI (tOp rAddI (tC (.int 5)) (tVar 5)) (tVar 7))) tNoPart) (gName 9))
    (tRet (tCall (sp_made_letter K) [] C8.E0 (tCons (tOp rAddI (tOp rMulI (tOp rAddI (tOp rMulI (tVar 1) (tC (.int 97))) (tVar 2)) (tC (.int 97))) (tVar 3)) (tCons (tVar 6) (tCons (tOp (rIxT K) (tC (.ref (He.ga K "KINDS"))) (tOp rModI (tVar 4) (tCB (Evl.rLenS K) (tCons (tC (.ref (He.ga K "KINDS"))) tNil)))) (tCons (tVar 8) (tCons (tVar 9) tNil))))))))))))))
theorem pure_letter_of (T : Wd K mg) (vs : List V) (H : Hp) (Q : VK) (E : XK) (h : sp_letter_of K vs H Q E) : t_letter_of K { nx := fun _ H' => Q .non H', rt := Q } (start ["signs", "high", "middle", "low", "head", "many", "way", "told", "about", "body"] vs) H := by
  obtain ⟨a, L, rfl, hs, ok, k⟩ := h
  have sg := letter_sigs ok
  obtain ⟨x1, x2, x3, x4, x5, x6⟩ := letter_cut L
  have hk := kIx_ok ok.kind
  have c0 := ok.c0
  refine q_when (b := false) (et_is (et_not (et_B (ev_are_signs (ns := L.signs) (ev_var rfl) (.inl hs) sg))) rfl) (fun h => nomatch h) fun _ H1 e1 => ?_
  have hs := ex_l e1 hs
  refine (el_is (el_taken_from (i := 0) (j := 4) (ev_var rfl) ev_c ev_c hs (by rw [x6]; omega)) x1) H1 (Ex.refl H1) _ fun p H2 _ e2 h2 => ?_
  refine ⟨p, _, rfl, sq_of h2, rfl, _, _, rfl, _, _, rfl, _, _, rfl, _, _, rfl, rfl, ?_⟩
  have hs := ex_l e2 hs
  have kl : ∀ (H9 : Hp) (σ : L2.St), Ev (tCB (Evl.rLenS K) (tCons (tC (.ref (He.ga K "KINDS"))) tNil)) σ H9 (.int 5) := fun H9 σ => ev_is (ev_lenT ev_c (T.kin H9)) (by decide)
  refine q_asg (v := .int (L.way.length : Int)) (ev_is (ev_op (ev_var rfl) (kl _ _) (rv_div (by decide))) (congrArg V.int (by omega))) fun H3 e3 => ?_
  have hs := ex_l e3 hs
  refine q_asgL (el_is (el_taken_from (i := 4) (j := L.way.length) (ev_var rfl) ev_c (ev_var rfl) hs (by rw [x6]; omega)) x2) fun w H4 _ e4 hw => ?_
  have hs := ex_l e4 hs
  refine q_asg (v := .int (L.about.length : Int)) ?_ fun H5 e5 => ?_
  · refine ev_opL1 (el_is (el_taken_from (i := 4 + L.way.length) (j := 1) (ev_var rfl) (ev_is (ev_op ev_c (ev_var rfl) rv_I0) (by rw [Int.natCast_add]; rfl)) ev_c hs (by rw [x6]; omega)) x3) (fun _ _ => ev_c) fun p H9 hp _ => rv_ixL (sq_of hp) (at_nat (by decide) rfl)
  have hs := ex_l e5 hs
  have hw := e5 _ _ hw
  refine q_asgL (el_is (el_taken_from (i := 5 + L.way.length) (j := L.about.length) (ev_var rfl) (ev_is (ev_op ev_c (ev_var rfl) rv_I0) (by rw [Int.natCast_add]; rfl)) (ev_var rfl) hs (by rw [x6]; omega)) x4) fun ab H6 _ e6 ha => ?_
  have hs := ex_l e6 hs
  have hw := e6 _ _ hw
  refine q_asgL (xs := L.body.map V.int) (el_is (el_sl (lo := some ((5 + L.way.length + L.about.length : Nat) : Int)) (hi := none) (ev_var rfl) (eo_some (ev_is (ev_op (ev_op ev_c (ev_var rfl) rv_I0) (ev_var rfl) rv_I0) (by rw [Int.natCast_add, Int.natCast_add]; rfl))) eo_none hs) ((cut_from (by rw [x6]; omega)).trans x5)) fun bd H7 _ e7 hb => ?_
  have hw := e7 _ _ hw
  have ha := e7 _ _ ha
  refine s_retI (K := K) (d := L.data) (evi_call (vs := [.int L.count, .ref w, .str L.kind, .ref ab, .ref bd]) (ea_cons (ev_is (ev_op (ev_op (ev_op (ev_op (ev_var rfl) ev_c (rv_mul (by omega))) (ev_var rfl) rv_I0) ev_c (rv_mul (by omega))) (ev_var rfl) rv_I0) (congrArg V.int (by omega))) (ea_cons (ev_var rfl) (ea_cons (ev_op ev_c (ev_op (ev_var rfl) (kl _ _) (rv_mod (by decide))) (rv_ixT (v := .str L.kind) (T.kin H7) (at_nat (by omega) ?_))) (ea_cons (ev_var rfl) (ea_cons (ev_var rfl) ea_nil)))))
    (fun H8 e8 Q q E => ⟨L, w, ab, bd, rfl, ok, sq_of (e8 _ _ hw), .inl (sq_of (e8 _ _ ha)), .inl (sq_of (e8 _ _ hb)), q⟩)) fun v H8 e8 i8 => k v H8 ((((((e1.trans e2).trans e3).trans e4).trans e5).trans e6).trans (e7.trans e8)) i8
  rw [show ((↑L.way.length * 5 + (kIx L.kind : Int)) % 5).toNat = kIx L.kind by omega, List.getElem?_map, hk.2.1]
  rfl
section
variable {P : Program} {w : World} {K : PySem.W.Frag} {mg : Str → Option Value} {base : Heap}
theorem sc_letter_of : FnScope ["signs", "high", "middle", "low", "head", "many", "way", "told", "about", "body"] ["signs"] (defScope s_letter_of) := ⟨rfl, rfl, rfl, by decide +kernel, rfl, by decide +kernel, by decide +kernel⟩
theorem dr_letter_of (T : Wd K mg) (c_are_signs : Cal P w K mg base 1 "are_signs" (sp_are_signs K) []) (c_taken_from : Cal P w K mg base 1 "taken_from" (sp_taken_from K) []) (c_made_letter : Cal P w K mg base 2 "made_letter" (sp_made_letter K) []) {f : Addr} {cdv : Value} {A : Around} {outer : List Env} {s : Shared} {H : Hp} {E : XK} (hr : Room 2 (A.deeper (envOfC "letter_of" (defScope s_letter_of) s.heap.objs.size f cdv))) :
    PSs (cxOf CX0 P w K mg base ["signs", "high", "middle", "low", "head", "many", "way", "told", "about", "body"] "letter_of" (defScope s_letter_of) f cdv A outer s H E).nox (defBody s_letter_of) (t_letter_of K) := by
  have nd := sc_letter_of.nd
  exact (pss_cons (ps_if (pt_not (pt_val (pe_c c_are_signs hr (by decide) rfl (pa_cons (pv 0) pa_nil)))) pss_never pss_nil)
    (pss_cons (ps_asg (pe_c c_taken_from hr (by decide) rfl (pa_cons (pv 0) (pa_cons pe_int (pa_cons pe_int pa_nil)))) (pg_unl rfl (pgs_cons (pg_name (i := 1) nd rfl (by first | exact Or.inl rfl | exact Or.inr rfl)) (pgs_cons (pg_name (i := 2) nd rfl (by first | exact Or.inl rfl | exact Or.inr rfl)) (pgs_cons (pg_name (i := 3) nd rfl (by first | exact Or.inl rfl | exact Or.inr rfl)) (pgs_cons (pg_name (i := 4) nd rfl (by first | exact Or.inl rfl | exact Or.inr rfl)) pgs_nil))))))
    (pss_cons (ps_set (i := 5) nd rfl (by first | exact Or.inl rfl | exact Or.inr rfl) (pe_op op_fdiv (pv 4) (pe_callB call_len_seq (by rfl) (T.free 97) (by decide +kernel) (pa_cons (pe_gc rfl (T.glo 4)) pa_nil))))
    (pss_cons (ps_set (i := 6) nd rfl (by first | exact Or.inl rfl | exact Or.inr rfl) (pe_c c_taken_from hr (by decide) rfl (pa_cons (pv 0) (pa_cons pe_int (pa_cons (pv 5) pa_nil)))))
    (pss_cons (ps_set (i := 7) nd rfl (by first | exact Or.inl rfl | exact Or.inr rfl) (pe_ix ix_list (pe_c c_taken_from hr (by decide) rfl (pa_cons (pv 0) (pa_cons (pe_op op_add pe_int (pv 5)) (pa_cons pe_int pa_nil)))) pe_int (fun _ _ => rfl)))
    (pss_cons (ps_set (i := 8) nd rfl (by first | exact Or.inl rfl | exact Or.inr rfl) (pe_c c_taken_from hr (by decide) rfl (pa_cons (pv 0) (pa_cons (pe_op op_add pe_int (pv 5)) (pa_cons (pv 7) pa_nil)))))
    (pss_cons (ps_set (i := 9) nd rfl (by first | exact Or.inl rfl | exact Or.inr rfl) (pe_slice sl_list (pv 0) (po_some (pe_op op_add (pe_op op_add pe_int (pv 5)) (pv 7))) po_none))
    (pss_one (ps_ret (pe_c c_made_letter hr (by decide) rfl (pa_cons (pe_op op_add (pe_op op_mul (pe_op op_add (pe_op op_mul (pv 1) (pe_gc rfl (T.int 0))) (pv 2)) (pe_gc rfl (T.int 0))) (pv 3)) (pa_cons (pv 6) (pa_cons (pe_ix ix_tup (pe_gc rfl (T.glo 4)) (pe_op op_mod (pv 4) (pe_callB call_len_seq (by rfl) (T.free 97) (by decide +kernel) (pa_cons (pe_gc rfl (T.glo 4)) pa_nil))) (fun _ _ => rfl)) (pa_cons (pv 8) (pa_cons (pv 9) pa_nil)))))))))))))))
theorem ok_letter_of (T : Wd K mg) (c_are_signs : Cal P w K mg base 1 "are_signs" (sp_are_signs K) []) (c_taken_from : Cal P w K mg base 1 "taken_from" (sp_taken_from K) []) (c_made_letter : Cal P w K mg base 2 "made_letter" (sp_made_letter K) []) {f : Addr} {fd : FuncData} (F : FunD K ds_letter_of.name ds_letter_of.qual ds_letter_of.params ds_letter_of.body ds_letter_of.scope [] [] f fd) : FnOk P w K mg base CX0 3 f fd ["signs"] (sp_letter_of K) := by
  refine FunD.ok F sc_letter_of (fun vs H Q E h => ?_) (fun cdv A outer s H vs Q E hr h => ⟨t_letter_of K, PSs.nox (dr_letter_of T c_are_signs c_taken_from c_made_letter hr), pure_letter_of T vs H Q E h⟩)
  obtain ⟨_, _, e, _⟩ := h
  rw [e]
  all_goals rfl
end
theorem evi_letter_of {σ : L2.St} {H : Hp} {te : TE} {a : Addr} {L : Letter} (h : Ev te σ H (.ref a)) (hs : SqL K H a (L.signs.map V.int)) (ok : L.Ok) : EvI K (tCall (sp_letter_of K) [] E0 (tCons te tNil)) σ H L.data :=
  evi_call (ea_cons h ea_nil) fun _ e _ q _ => ⟨a, L, rfl, ex_l e hs, ok, q⟩
/-! ### pieces -/
def manyM (ns : List Int) : Nat := (ns.length + 8) / 9
def pieceM (ns : List Int) (k : Nat) : List Int := ((manyM ns : Int) - 1 - (k : Int)) :: (ns.drop (9 * k)).take 9
def piecesM (ns : List Int) : List (List Int) := (List.range (manyM ns)).map (pieceM ns)
def PiecesAt (H0 H : Hp) (p : Addr) (ps : List (List Int)) : Prop := ∃ qs : List Addr, H p = some (.lst (qs.map V.ref)) ∧ Paired (fun q pc => H0 q = none ∧ H q = some (.lst (pc.map V.int))) qs ps
theorem Paired.snoc {α β : Type} {F : α → β → Prop} : ∀ {l : List α} {m : List β} {a : α} {b : β}, Paired F l m → F a b → Paired F (l ++ [a]) (m ++ [b])
  | _, _, _, _, .nil, h => .cons h .nil
  | _, _, _, _, .cons r t, h => .cons r (Paired.snoc t h)
theorem Paired.get {α β : Type} {F : α → β → Prop} : ∀ {l : List α} {m : List β} {i : Nat} {b : β}, Paired F l m → m[i]? = some b → ∃ a, l[i]? = some a ∧ F a b
  | _, _, _, _, .nil, e => by simp at e
  | _, _, 0, _, .cons r _, e => by simp at e; subst e; exact ⟨_, rfl, r⟩
  | _, _, i + 1, _, .cons _ t, e => Paired.get (i := i) t (by simpa using e)
def sp_pieces_of (K : PySem.W.Frag) : Sp := fun vs H Q _ => ∃ (a : Addr) (ns : List Int), vs = [.ref a] ∧ SqL K H a (ns.map V.int) ∧ ns.length ≤ 1000 ∧ ∀ p H2, H p = none → Ex H H2 → PiecesAt H H2 p (piecesM ns) → Q (.ref p) H2
/-- pieces_of -/
def t_pieces_of (K : PySem.W.Frag) : TS :=
    (tSeq (tAsg (tOp rDivI (tOp rSubI (tOp rAddI (tCB (Evl.rLenS K) (tCons (tVar 0) tNil)) (tC (.int 9))) (tC (.int 1))) (tC (.int 9))) (gName 1))
    (tRet (tLc (iRng1 (tCons (tVar 1) tNil)) (gName 2) tYes (tOp (rCatS K) (tLst (tCons (tOp rSubI (tOp rSubI (tVar 1) (tC (.int 1))) (tVar 2)) tNil)) (tSl (rSlL K) (tVar 0) (tPart (tOp rMulI (tVar 2) (tC (.int 9)))) (tPart (tOp rMulI (tOp rAddI (tVar 2) (tC (.int 1))) (tC (.int 9)))))) [2])))
theorem pure_pieces_of (T : Wd K mg) (vs : List V) (H : Hp) (Q : VK) (E : XK) (h : sp_pieces_of K vs H Q E) : t_pieces_of K { nx := fun _ H' => Q .non H', rt := Q } (start ["signs", "many", "k"] vs) H := by
  obtain ⟨a, ns, rfl, hs, hl, k⟩ := h
  have hm : (manyM ns : Int) = ((ns.length : Int) + 9 - 1) / 9 := by unfold manyM; omega
  refine q_asg (v := .int (manyM ns : Int)) (ev_is (ev_op (ev_op (ev_op (ev_is (ev_len (ev_var rfl) hs) (by rw [List.length_map])) ev_c rv_I0) ev_c rv_I0) ev_c (rv_div (by decide))) (by rw [hm])) fun H1 e1 => ?_
  have hs := ex_l e1 hs
  have mb : manyM ns ≤ 1000 := by unfold manyM; omega
  refine lcR1_any (n := (manyM ns : Int)) (ea_cons (ev_var rfl) ea_nil) (by omega) (fun Dl i H' => H1 Dl = none ∧ Ex H1 H' ∧ ∃ qs : List Addr, H' Dl = some (.lst (qs.map V.ref)) ∧ qs.length = i ∧ Paired (fun q pc => q ≠ Dl ∧ H q = none ∧ H' q = some (.lst (pc.map V.int))) qs ((List.range i).map (pieceM ns)))
    (fun Dl H2 hD e2 => ⟨hD, Ex.mut e2 hD, [], upd_same, rfl, .nil⟩) (fun Dl i H' hi p => ?_) fun Dl H' p => ?_
  · obtain ⟨hD, e, qs, hq, ql, pr⟩ := p
    have hs := ex_l e hs
    refine ⟨rfl, ?_⟩
    refine (el_is (el_cat (el_lst (ea_cons (ev_op (ev_op (ev_var rfl) ev_c rv_I0) (ev_var rfl) rv_I0) ea_nil) (Nat.le_of_ble_eq_true rfl)) (el_sl (lo := some ((9 * i : Nat) : Int)) (hi := some ((9 * i + 9 : Nat) : Int)) (ev_var rfl) (eo_some (ev_is (ev_op (ev_var rfl) ev_c (rv_mul (by omega))) (congrArg V.int (by omega)))) (eo_some (ev_is (ev_op (ev_op (ev_var rfl) ev_c rv_I0) ev_c (rv_mul (by omega))) (congrArg V.int (by omega)))) hs) (by rw [cut_any]; simp; omega)) (ys := (pieceM ns i).map V.int) ?_) H' (Ex.refl H') _ fun q H4 hq4 e4 h4 => ?_
    · rw [cut_any]
      unfold pieceM
      rw [List.map_cons, List.map_take, List.map_drop, show 9 * i + 9 - 9 * i = 9 by omega]
      rfl
    · have nq : q ≠ Dl := fun z => by
        subst z
        rw [hq] at hq4
        cases hq4
      refine ⟨_, e4 _ _ hq, by rw [List.length_map]; exact sz_lt (by omega), hD, Ex.mut (e.trans e4) hD, qs ++ [q], by rw [upd_same, List.map_append]; rfl, by rw [List.length_append, ql]; rfl, ?_⟩
      rw [List.range_succ, List.map_append]
      refine Paired.snoc (Paired.mapP pr fun b pc h => ⟨h.1, h.2.1, by rw [upd_ne h.1]; exact e4 _ _ h.2.2⟩) ⟨nq, fresh_back (e1.trans e) hq4, by rw [upd_ne nq]; exact h4⟩
  · obtain ⟨hD, e, qs, hq, ql, pr⟩ := p
    refine k Dl H' (fresh_back e1 hD) (e1.trans e) ⟨qs, hq, ?_⟩
    rw [Int.toNat_natCast] at pr
    exact Paired.mapP pr fun b pc h => h.2
section
variable {P : Program} {w : World} {K : PySem.W.Frag} {mg : Str → Option Value} {base : Heap}
theorem sc_pieces_of : FnScope ["signs", "many", "k"] ["signs"] (defScope s_pieces_of) := ⟨rfl, rfl, rfl, by decide +kernel, rfl, by decide +kernel, by decide +kernel⟩
theorem dr_pieces_of (T : Wd K mg) {f : Addr} {cdv : Value} {A : Around} {outer : List Env} {s : Shared} {H : Hp} {E : XK} (hr : Room 0 (A.deeper (envOfC "pieces_of" (defScope s_pieces_of) s.heap.objs.size f cdv))) :
    PSs (cxOf CX0 P w K mg base ["signs", "many", "k"] "pieces_of" (defScope s_pieces_of) f cdv A outer s H E).nox (defBody s_pieces_of) (t_pieces_of K) := by
  have nd := sc_pieces_of.nd
  exact (pss_cons (ps_set (i := 1) nd rfl (by first | exact Or.inl rfl | exact Or.inr rfl) (pe_op op_fdiv (pe_op op_sub (pe_op op_add (pe_callB call_len_seq (by rfl) (T.free 97) (by decide +kernel) (pa_cons (pv 0) pa_nil)) (pe_gc rfl (T.int 7))) pe_int) (pe_gc rfl (T.int 7))))
    (pss_one (ps_ret (pe_lc (own := [("k", 2)]) (g := (gName 2)) (tt := tYes) rfl nd (pi_range1 (by rfl) (T.free 101) (pa_cons (pv 1) pa_nil)) (blkOk_by (by kernel_rfl)) (fun _ _ _ _ _ => (pg_name (i := 2) nd rfl (by first | exact Or.inl rfl | exact Or.inr rfl))) (fun _ _ _ _ _ => pts_nil) (fun _ _ _ _ _ => (pe_op op_catS (pe_lst (pa_cons (pe_op op_sub (pe_op op_sub (pv 1) pe_int) (pv 2)) pa_nil)) (pe_slice sl_list (pv 0) (po_some (pe_op op_mul (pv 2) (pe_gc rfl (T.int 7)))) (po_some (pe_op op_mul (pe_op op_add (pv 2) pe_int) (pe_gc rfl (T.int 7)))))))))))
theorem ok_pieces_of (T : Wd K mg) {f : Addr} {fd : FuncData} (F : FunD K ds_pieces_of.name ds_pieces_of.qual ds_pieces_of.params ds_pieces_of.body ds_pieces_of.scope [] [] f fd) : FnOk P w K mg base CX0 1 f fd ["signs"] (sp_pieces_of K) := by
  refine FunD.ok F sc_pieces_of (fun vs H Q E h => ?_) (fun cdv A outer s H vs Q E hr h => ⟨t_pieces_of K, PSs.nox (dr_pieces_of T  hr), pure_pieces_of T vs H Q E h⟩)
  obtain ⟨_, _, e, _⟩ := h
  rw [e]
  all_goals rfl
end
/-! ### the joiner -/
def JoinerAt (K : PySem.W.Frag) (H : Hp) (p q : Addr) (ns : List Int) : Prop := ∃ dx, H p = some (.ins (He.ga K "Joiner") dx [("so_far", .ref q)]) ∧ H q = some (.lst (ns.map V.int))
def sp_Joiner_init (K : PySem.W.Frag) : Sp := fun vs H Q _ => ∃ (p dx : Addr), vs = [.ref p] ∧ H p = some (.ins (He.ga K "Joiner") dx []) ∧ ∀ q H', H q = none → Bt [p] H H' → JoinerAt K H' p q [] → Q .non H'
/-- Joiner.__init__ -/
def t_Joiner_init (K : PySem.W.Frag) : TS :=
    (sFld K (tVar 0) (tLst tNil) "so_far")
theorem pure_Joiner_init (T : Wd K mg) (vs : List V) (H : Hp) (Q : VK) (E : XK) (h : sp_Joiner_init K vs H Q E) : t_Joiner_init K { nx := fun _ H' => Q .non H', rt := Q } (start ["self"] vs) H := by
  obtain ⟨p, dx, rfl, hp, k⟩ := h
  refine s_fldL (xs := []) (el_lst ea_nil (Nat.zero_le _)) (fun _ _ _ => ev_var rfl) hp (cl_Joiner T) (na_Joiner_so_far T) (Nat.le_of_ble_eq_true rfl) fun l H1 hl e1 h1 => ?_
  refine k l _ hl (Bt.upd (Bt.ex e1) (.inl (by simp))) ⟨dx, upd_same, ?_⟩
  rw [upd_ne (ne_of_none hp hl).symm]
  exact h1
section
variable {P : Program} {w : World} {K : PySem.W.Frag} {mg : Str → Option Value} {base : Heap}
theorem sc_Joiner_init : FnScope ["self"] ["self"] (defScope s_Joiner_init) := ⟨rfl, rfl, rfl, by decide +kernel, rfl, by decide +kernel, by decide +kernel⟩
theorem dr_Joiner_init (T : Wd K mg) {f : Addr} {cdv : Value} {A : Around} {outer : List Env} {s : Shared} {H : Hp} {E : XK} (hr : Room 0 (A.deeper (envOfC "Joiner.__init__" (defScope s_Joiner_init) s.heap.objs.size f cdv))) :
    PSs (cxOf CX0 P w K mg base ["self"] "Joiner.__init__" (defScope s_Joiner_init) f cdv A outer s H E).nox (defBody s_Joiner_init) (t_Joiner_init K) := by
  have nd := sc_Joiner_init.nd
  exact (pss_one (ps_fld (pv 0) (pe_lst pa_nil) rfl))
theorem ok_Joiner_init (T : Wd K mg) {f : Addr} {fd : FuncData} (F : FunD K ds_Joiner_init.name ds_Joiner_init.qual ds_Joiner_init.params ds_Joiner_init.body ds_Joiner_init.scope [] [] f fd) : FnOk P w K mg base CX0 1 f fd ["self"] (sp_Joiner_init K) := by
  refine FunD.ok F sc_Joiner_init (fun vs H Q E h => ?_) (fun cdv A outer s H vs Q E hr h => ⟨t_Joiner_init K, PSs.nox (dr_Joiner_init T  hr), pure_Joiner_init T vs H Q E h⟩)
  obtain ⟨_, _, e, _⟩ := h
  rw [e]
  all_goals rfl
end
def sp_Joiner_take (K : PySem.W.Frag) : Sp := fun vs H Q _ => ∃ (p q a : Addr) (z : Int) (rest ns : List Int), vs = [.ref p, .ref a] ∧ JoinerAt K H p q ns ∧ H a = some (.lst ((z :: rest).map V.int)) ∧ rest.length ≤ 9 ∧ Sigs (z :: rest) ∧ ns.length ≤ 1000 ∧
  (0 < z → ∀ q' H', H q' = none → Bt [p] H H' → JoinerAt K H' p q' (ns ++ rest) → Q .non H') ∧ (¬ 0 < z → ∀ q' r H', H q' = none → Bt [p] H H' → JoinerAt K H' p q' [] → H' r = some (.lst ((ns ++ rest).map V.int)) → Q (.ref r) H')
/-- Joiner.take -/
def t_Joiner_take (K : PySem.W.Frag) : TS :=
    (tSeq (tIfS (tOr (tNot (tB (tCB RZ.rIsTy (tCons (tVar 1) (tCons (tC (.ty "list")) tNil))))) (tOr (tTest (tOp rLtI (tCB (Evl.rLenS K) (tCons (tVar 1) tNil)) (tC (.int 1)))) (tOr (tTest (tOp rGtI (tCB (Evl.rLenS K) (tCons (tVar 1) tNil)) (tOp rAddI (tC (.int 9)) (tC (.int 1))))) (tNot (tB (tCall (sp_are_signs K) [] C8.E0 (tCons (tVar 1) tNil))))))) tNever tNext)
    (tSeq (sFld K (tVar 0) (tOp (rCatS K) (tFld K (tVar 0) "so_far") (tSl (rSlL K) (tVar 1) (tPart (tC (.int 1))) tNoPart)) "so_far")
    (tSeq (tIfS (tTest (tOp rGtI (tOp (rIxL K) (tVar 1) (tC (.int 0))) (tC (.int 0)))) (tRet (tC .non)) tNext)
    (tSeq (tAsg (tFld K (tVar 0) "so_far") (gName 2))
    (tSeq (sFld K (tVar 0) (tLst tNil) "so_far")
    (tRet (tVar 2)))))))
theorem pure_Joiner_take (T : Wd K mg) (vs : List V) (H : Hp) (Q : VK) (E : XK) (h : sp_Joiner_take K vs H Q E) : t_Joiner_take K { nx := fun _ H' => Q .non H', rt := Q } (start ["self", "piece", "signs"] vs) H := by
  obtain ⟨p, q, a, z, rest, ns, rfl, ⟨dx, hp, hq⟩, ha, hl, hn, hz, k1, k2⟩ := h
  have npa : p ≠ a := ne_of hp ha (by intro z; cases z)
  have npq : p ≠ q := ne_of hp hq (by intro z; cases z)
  have la : ∀ (H9 : Hp) (σ : L2.St), Ex H H9 → σ[1]? = some (some (.ref a)) → Ev (tCB (Evl.rLenS K) (tCons (tVar 1) tNil)) σ H9 (.int ((rest.length : Int) + 1)) := fun H9 σ e9 hσ => ev_is (ev_len (ev_var hσ) (sq_of (e9 _ _ ha))) (by simp)
  refine q_when (b := false) (et_is (et_or (et_not (et_B (b := true) ?_)) (fun _ => et_or (et_test (ev_op (la H _ (Ex.refl H) rfl) ev_c rv_I0)) (fun _ => et_or (et_test (ev_op (la H _ (Ex.refl H) rfl) (ev_op ev_c ev_c rv_I0) rv_I0)) (fun _ => et_not (et_B (ev_are_signs (ns := z :: rest) (ev_var rfl) (.inl (sq_of ha)) hn)))))) (by simp; omega)) (fun h => nomatch h) fun _ H1 e1 => ?_
  · exact fun H9 e9 Q qq => ⟨_, rfl, .ref a, "list", rfl, .lst (e9 _ _ ha), qq H9 (Ex.refl H9)⟩
  have hp1 := e1 _ _ hp
  have hq1 := e1 _ _ hq
  have ha1 := e1 _ _ ha
  refine q_fldL (xs := (ns ++ rest).map V.int) (el_is (el_catV (ev_fld (ev_var rfl) hp1 (cl_Joiner T) (na_Joiner_so_far T) rfl) (sq_of hq1) (el_is (el_sl (lo := some ((1 : Nat) : Int)) (hi := none) (ev_var rfl) (eo_some ev_c) eo_none (sq_of ha1)) (cut_from (by simp))) (by simp; omega)) (by rw [List.map_append]; rfl)) (fun _ _ _ => ev_var rfl) hp1 (cl_Joiner T) (na_Joiner_so_far T) (Nat.le_of_ble_eq_true rfl) fun l H2 hl' e2 h2 => ?_
  have npl : p ≠ l := ne_of_none hp1 hl'
  have nal : a ≠ l := ne_of_none ha1 hl'
  have ha2 : (upd H2 p (.ins (He.ga K "Joiner") dx (putF "so_far" (.ref l) [("so_far", .ref q)]))) a = some (.lst ((z :: rest).map V.int)) := by rw [upd_ne npa.symm]; exact e2 _ _ ha1
  have hp2 : (upd H2 p (.ins (He.ga K "Joiner") dx (putF "so_far" (.ref l) [("so_far", .ref q)]))) p = some (.ins (He.ga K "Joiner") dx [("so_far", .ref l)]) := upd_same
  have hl2 : (upd H2 p (.ins (He.ga K "Joiner") dx (putF "so_far" (.ref l) [("so_far", .ref q)]))) l = some (.lst ((ns ++ rest).map V.int)) := by rw [upd_ne npl.symm]; exact h2
  have b2 : Bt [p] H (upd H2 p (.ins (He.ga K "Joiner") dx (putF "so_far" (.ref l) [("so_far", .ref q)]))) := Bt.upd (Bt.ex (e1.trans e2)) (.inl (by simp))
  generalize upd H2 p (.ins (He.ga K "Joiner") dx (putF "so_far" (.ref l) [("so_far", .ref q)])) = H3 at *
  refine q_when (b := decide (0 < z)) (et_test (ev_op (ev_op (ev_var rfl) ev_c (rv_ixL (v := .int z) (sq_of ha2) (at_nat (by decide) rfl))) ev_c rv_I0)) (fun h H4 e4 => s_ret ev_c fun H5 e5 => ?_) (fun h H4 e4 => ?_)
  · exact k1 (of_decide_eq_true h) l H5 (fresh_back e1 hl') (b2.trans (Bt.ex (e4.trans e5))) ⟨dx, (e4.trans e5) _ _ hp2, (e4.trans e5) _ _ hl2⟩
  · have hp4 := e4 _ _ hp2
    refine q_asg (ev_fld (ev_var rfl) hp4 (cl_Joiner T) (na_Joiner_so_far T) rfl) fun H5 e5 => ?_
    have hp5 := e5 _ _ hp4
    refine q_fldL (xs := []) (el_lst ea_nil (Nat.zero_le _)) (fun _ _ _ => ev_var rfl) hp5 (cl_Joiner T) (na_Joiner_so_far T) (Nat.le_of_ble_eq_true rfl) fun m H6 hm e6 h6 => ?_
    refine s_ret (ev_var rfl) fun H7 e7 => ?_
    have b5 := b2.trans (Bt.ex (S := [p]) (e4.trans e5))
    refine k2 (of_decide_eq_false h) m l H7 (by
      cases hx : H m with
      | none => rfl
      | some o =>
        have q := b5 m o (by simpa using (ne_of_none hp5 hm).symm) hx
        rw [hm] at q
        cases q) (((b2.trans (Bt.ex (e4.trans e5))).trans (Bt.upd (Bt.ex e6) (.inl (by simp)))).trans (Bt.ex e7)) ⟨dx, e7 _ _ upd_same, e7 _ _ ?_⟩ (e7 _ _ ?_)
    · rw [upd_ne (ne_of_none hp5 hm).symm]
      exact h6
    · rw [upd_ne npl.symm]
      exact e6 _ _ (e5 _ _ (e4 _ _ hl2))
section
variable {P : Program} {w : World} {K : PySem.W.Frag} {mg : Str → Option Value} {base : Heap}
theorem sc_Joiner_take : FnScope ["self", "piece", "signs"] ["self", "piece"] (defScope s_Joiner_take) := ⟨rfl, rfl, rfl, by decide +kernel, rfl, by decide +kernel, by decide +kernel⟩
theorem dr_Joiner_take (T : Wd K mg) (c_are_signs : Cal P w K mg base 1 "are_signs" (sp_are_signs K) []) {f : Addr} {cdv : Value} {A : Around} {outer : List Env} {s : Shared} {H : Hp} {E : XK} (hr : Room 1 (A.deeper (envOfC "Joiner.take" (defScope s_Joiner_take) s.heap.objs.size f cdv))) :
    PSs (cxOf CX0 P w K mg base ["self", "piece", "signs"] "Joiner.take" (defScope s_Joiner_take) f cdv A outer s H E).nox (defBody s_Joiner_take) (t_Joiner_take K) := by
  have nd := sc_Joiner_take.nd
  exact (pss_cons (ps_if (PW.pt (pw_or (pt_not (pt_val (pe_callB RZ.call_isTy (by rfl) (T.free 96) (by decide +kernel) (pa_cons (pv 1) (pa_cons (pe_bltn (by rfl) (T.free 98) (by decide +kernel) rfl) pa_nil))))) (pw_or (pt_cmpR op_lt (pe_callB call_len_seq (by rfl) (T.free 97) (by decide +kernel) (pa_cons (pv 1) pa_nil)) pe_int (nomark _)) (pw_or (pt_cmpR op_gt (pe_callB call_len_seq (by rfl) (T.free 97) (by decide +kernel) (pa_cons (pv 1) pa_nil)) (pe_op op_add (pe_gc rfl (T.int 7)) pe_int) (nomark _)) (pw_or1 (pt_not (pt_val (pe_c c_are_signs hr (by decide) rfl (pa_cons (pv 1) pa_nil))))))))) pss_never pss_nil)
    (pss_cons (ps_fld (pv 0) (pe_op op_catS (pe_fld (pv 0) rfl) (pe_slice sl_list (pv 1) (po_some pe_int) po_none)) rfl)
    (pss_cons (ps_if (pt_cmpR op_gt (pe_ix ix_list (pv 1) pe_int (fun _ _ => rfl)) pe_int (nomark _)) (pss_one (ps_ret pe_non)) pss_nil)
    (pss_cons (ps_set (i := 2) nd rfl (by first | exact Or.inl rfl | exact Or.inr rfl) (pe_fld (pv 0) rfl))
    (pss_cons (ps_fld (pv 0) (pe_lst pa_nil) rfl)
    (pss_one (ps_ret (pv 2))))))))
theorem ok_Joiner_take (T : Wd K mg) (c_are_signs : Cal P w K mg base 1 "are_signs" (sp_are_signs K) []) {f : Addr} {fd : FuncData} (F : FunD K ds_Joiner_take.name ds_Joiner_take.qual ds_Joiner_take.params ds_Joiner_take.body ds_Joiner_take.scope [] [] f fd) : FnOk P w K mg base CX0 2 f fd ["self", "piece"] (sp_Joiner_take K) := by
  refine FunD.ok F sc_Joiner_take (fun vs H Q E h => ?_) (fun cdv A outer s H vs Q E hr h => ⟨t_Joiner_take K, PSs.nox (dr_Joiner_take T c_are_signs hr), pure_Joiner_take T vs H Q E h⟩)
  obtain ⟨_, _, _, _, _, _, e, _⟩ := h
  rw [e]
  all_goals rfl
end
end

end K85
end
section
set_option maxHeartbeats 400000
namespace K85
open PySem PySem.Spec PyProof.Rows
open L2 hiding CX0 E0 pass0
open C8 Evl
/-! ### tactics -/
local macro_rules | `(tactic| walk_at "side") => `(tactic| first | omega | assumption | rfl | decide)
local macro_rules | `(tactic| walk_at "at") => `(tactic| first | (refine at_int ?_ ?_ <;> first | omega | (simp; omega)) | assumption)
local macro_rules | `(tactic| walk_at "rv") => `(tactic| first
  | with_reducible exact rv_I0
  | ((with_reducible apply rv_eq); rfl)
  | ((with_reducible apply rv_ne); rfl)
  | ((with_reducible apply rv_mod); first | omega | decide)
  | ((with_reducible apply rv_mul); omega)
  | ((with_reducible apply rv_div); omega)
  | ((with_reducible apply rv_ixL); · assumption
     · walk_at "at")
  | ((with_reducible apply rv_ixT); · assumption
     · walk_at "at"))
local macro_rules | `(tactic| walk_at "ev") => `(tactic| first
  | ((with_reducible apply ev_var); rfl)
  | with_reducible exact ev_c
  | ((with_reducible apply ev_isN); walk_at "ev")
  | ((with_reducible apply ev_notN); walk_at "ev")
  | ((with_reducible apply ev_op); · walk_at "ev"
     · walk_at "ev"
     · walk_at "rv")
  | ((with_reducible apply ev_un); · walk_at "ev"
     · with_reducible exact ru_neg)
  | ((with_reducible apply ev_chain); · walk_at "ev"
     · walk_at "ev"
     · walk_at "rv"
     · intro _; walk_at "ev"
     · intro _; walk_at "rv")
  | ((with_reducible apply ev_len); · walk_at "ev"
     · assumption)
  | ((with_reducible apply ev_lenT); · walk_at "ev"
     · assumption)
  | ((with_reducible apply ev_andV); · walk_at "ev"
     · intro _; walk_at "ev")
  | with_reducible assumption)
local macro_rules | `(tactic| walk_at "evt") => `(tactic| first
  | ((with_reducible apply et_or); · walk_at "evt"
     · intro _; walk_at "evt")
  | ((with_reducible apply et_and); · walk_at "evt"
     · intro _; walk_at "evt")
  | ((with_reducible apply et_not); walk_at "evt")
  | ((with_reducible apply et_test); walk_at "ev")
  | ((with_reducible apply et_B); walk_at "ev")
  | with_reducible assumption)
local macro_rules | `(tactic| walk_at "bool") => `(tactic| first | rfl | (simp; done) | (simp; omega) | (simp; intros; omega) | grind)
section
variable {K : PySem.W.Frag} {mg : Str → Option Value}
/-! ### numbers told by signs -/
def digs : Int → Nat → List Int
  | _, 0 => []
  | n, k + 1 => n % 97 :: digs (n / 97) k
def bigs (n : Int) (k : Nat) : List Int := (digs n k).reverse
def numOf (ns : List Int) : Int := ns.foldl (fun n d => n * 97 + d) 0
theorem digs_len : ∀ (n : Int) (k : Nat), (digs n k).length = k
  | _, 0 => rfl
  | n, k + 1 => by rw [digs, List.length_cons, digs_len]
theorem bigs_len (n : Int) (k : Nat) : (bigs n k).length = k := by unfold bigs; rw [List.length_reverse, digs_len]
theorem div_pow (n : Int) (i : Nat) : n / 97 ^ (i + 1) = n / 97 ^ i / 97 := by
  rw [Int.pow_succ, Int.ediv_ediv_of_nonneg (Int.pow_nonneg (by decide))]
theorem digs_snoc : ∀ (n : Int) (k : Nat), digs n (k + 1) = digs n k ++ [n / 97 ^ k % 97]
  | n, 0 => by rw [digs, digs, digs, Int.pow_zero, Int.ediv_one]; rfl
  | n, k + 1 => by
    have e : n / 97 / 97 ^ k = n / 97 ^ (k + 1) := by
      rw [Int.pow_succ, Int.mul_comm, Int.ediv_ediv_of_nonneg (by decide)]
    rw [digs, digs_snoc (n / 97) k, e]
    rfl
theorem digs_sig : ∀ (n : Int) (k : Nat), Sigs (digs n k)
  | _, 0 => fun _ h => by cases h
  | n, k + 1 => fun d h => by
    rw [digs] at h
    rcases List.mem_cons.mp h with rfl | h
    · exact sig_mod _
    · exact digs_sig _ k d h
theorem bigs_sig (n : Int) (k : Nat) : Sigs (bigs n k) := fun d h => digs_sig n k d (List.mem_reverse.mp h)
theorem numOf_snoc (ns : List Int) (d : Int) : numOf (ns ++ [d]) = numOf ns * 97 + d := by unfold numOf; rw [List.foldl_append]; rfl
theorem numOf_bigs : ∀ (n : Int) (k : Nat), 0 ≤ n → n < 97 ^ k → numOf (bigs n k) = n
  | n, 0, h0, h1 => by
    rw [Int.pow_zero] at h1
    have : n = 0 := by omega
    subst this
    rfl
  | n, k + 1, h0, h1 => by
    have e : bigs n (k + 1) = bigs (n / 97) k ++ [n % 97] := by
      unfold bigs
      rw [digs, List.reverse_cons]
    rw [Int.pow_succ] at h1
    rw [e, numOf_snoc, numOf_bigs (n / 97) k (by omega) (Int.ediv_lt_of_lt_mul (by decide) h1)]
    omega
def sp_number_signs (_ : PySem.W.Frag) : Sp := fun vs H Q _ => ∃ (n : Int) (k : Nat), vs = [.int n, .int (k : Int)] ∧ 0 ≤ n ∧ n < 97 ^ k ∧ k ≤ 10 ∧ RetL ((bigs n k).map V.int) H Q
/-- number_signs -/
def t_number_signs (K : PySem.W.Frag) : TS :=
    (tSeq (tAsg (tLst tNil) (gName 2))
    (tSeq (tAsg (tVar 0) (gName 3))
    (tSeq (tFor (iRng1 (tCons (tVar 1) tNil)) (gName 4)
    (tSeq (tDrop (tBM K "list" rAppend (tVar 2) (tCons (tOp rModI (tVar 3) (tC (.int 97))) tNil)))
    (tAsg (tOp rDivI (tVar 3) (tC (.int 97))) (gName 3))))
    (tSeq (tIfS (tTest (tOp rNe (tVar 3) (tC (.int 0)))) tNever tNext)
    (tRet (tListRev K (tVar 2)))))))
theorem pure_number_signs (_ : Wd K mg) (vs : List V) (H : Hp) (Q : VK) (E : XK) (h : sp_number_signs K vs H Q E) : t_number_signs K { nx := fun _ H' => Q .non H', rt := Q } (start ["number", "many", "signs", "rest", "k"] vs) H := by
  obtain ⟨n, k, rfl, h0, h1, hk, kk⟩ := h
  refine q_asgL (xs := []) (el_lst ea_nil (Nat.zero_le _)) fun l H1 hl e1 hl1 => ?_
  refine q_asg (ev_var rfl) fun H2 e2 => ?_
  refine q_forR1 (n := (k : Int)) (ea_cons (ev_var rfl) ea_nil) (by omega) (fun i σ' H' => Ex H H' ∧ H' l = some (.lst ((digs n i).map V.int)) ∧ ∃ o, σ' = [some (.int n), some (.int (k : Int)), some (.ref l), some (.int (n / 97 ^ i)), o]) (fun H3 e3 => ⟨(e1.trans e2).trans e3, (e2.trans e3) _ _ hl1, none, by rw [Int.pow_zero, Int.ediv_one]; rfl⟩) ?_ ?_
  · rintro i σ' H' hi ⟨e, hl', o, rfl⟩
    have dl := digs_len n i
    refine q_app hl' (ev_var rfl) (v := .int (n / 97 ^ i % 97)) (ev_op (ev_var rfl) ev_c (rv_mod (by decide))) (by rw [List.length_map]; omega) fun H3 e3 => ?_
    refine s_asg (v := .int (n / 97 ^ (i + 1))) (ev_is (ev_op (ev_var rfl) ev_c (rv_div (by decide))) (by rw [div_pow])) fun H4 e4 => ?_
    refine ⟨(Ex.mut (e.trans e3) hl).trans e4, ?_, _, rfl⟩
    rw [e4 _ _ upd_same, digs_snoc, List.map_append]
    rfl
  · rintro σ' H' ⟨e, hl', o, rfl⟩
    rw [Int.toNat_natCast] at *
    have z : n / 97 ^ k = 0 := Int.ediv_eq_zero_of_lt h0 h1
    rw [z]
    refine q_when (b := false) (et_is (et_test (ev_op (ev_var rfl) ev_c (rv_ne rfl))) (by decide)) (fun h => nomatch h) fun _ H3 e3 => ?_
    show tListRev K (tVar 2) _ H3 _
    refine ⟨_, rfl, l, _, rfl, sq_of (e3 _ _ hl'), fun q hq => ?_⟩
    refine kk q _ (fresh_back (e.trans e3) hq) ((e.trans e3).trans (Ex.new hq)) ?_
    rw [upd_same, ← List.map_reverse]
    rfl
section
variable {P : Program} {w : World} {K : PySem.W.Frag} {mg : Str → Option Value} {base : Heap}
theorem sc_number_signs : FnScope ["number", "many", "signs", "rest", "k"] ["number", "many"] (defScope s_number_signs) := ⟨rfl, rfl, rfl, by decide +kernel, rfl, by decide +kernel, by decide +kernel⟩
theorem dr_number_signs (T : Wd K mg) {f : Addr} {cdv : Value} {A : Around} {outer : List Env} {s : Shared} {H : Hp} {E : XK} (hr : Room 0 (A.deeper (envOfC "number_signs" (defScope s_number_signs) s.heap.objs.size f cdv))) :
    PSs (cxOf CX0 P w K mg base ["number", "many", "signs", "rest", "k"] "number_signs" (defScope s_number_signs) f cdv A outer s H E).nox (defBody s_number_signs) (t_number_signs K) := by
  have nd := sc_number_signs.nd
  exact (pss_cons (ps_set (i := 2) nd rfl (by first | exact Or.inl rfl | exact Or.inr rfl) (pe_lst pa_nil))
    (pss_cons (ps_set (i := 3) nd rfl (by first | exact Or.inl rfl | exact Or.inr rfl) (pv 0))
    (pss_cons (ps_for PassesOwn.never rfl (pi_range1 (by rfl) (T.free 101) (pa_cons (pv 1) pa_nil)) (pg_name (i := 4) nd rfl (by first | exact Or.inl rfl | exact Or.inr rfl))
    (pss_cons (ps_expr (pe_bm PySem.F.plainAttrs_list PySem.F.slot_list_append PySem.F.type_list_append mt_append (pv 2) (pa_cons (pe_op op_mod (pv 3) (pe_gc rfl (T.int 24))) pa_nil)))
    (pss_one (ps_set (i := 3) nd rfl (by first | exact Or.inl rfl | exact Or.inr rfl) (pe_op op_fdiv (pv 3) (pe_gc rfl (T.int 24)))))))
    (pss_cons (ps_if (pt_cmpR op_ne (pv 3) pe_int (nomark _)) pss_never pss_nil)
    (pss_one (ps_ret (pe_listRev rfl (by rfl) (T.free 98) (by rfl) (T.free 102) (pv 2))))))))
theorem ok_number_signs (T : Wd K mg) {f : Addr} {fd : FuncData} (F : FunD K ds_number_signs.name ds_number_signs.qual ds_number_signs.params ds_number_signs.body ds_number_signs.scope [] [] f fd) : FnOk P w K mg base CX0 1 f fd ["number", "many"] (sp_number_signs K) := by
  refine FunD.ok F sc_number_signs (fun vs H Q E h => ?_) (fun cdv A outer s H vs Q E hr h => ⟨t_number_signs K, PSs.nox (dr_number_signs T  hr), pure_number_signs T vs H Q E h⟩)
  obtain ⟨_, _, e, _⟩ := h
  rw [e]
  all_goals rfl
end
theorem el_number_signs {σ : L2.St} {H : Hp} {te tf : TE} {n : Int} {k : Nat} (h : Ev te σ H (.int n)) (h' : Ev tf σ H (.int (k : Int))) (h0 : 0 ≤ n) (h1 : n < 97 ^ k) (hk : k ≤ 10) : EvL (tCall (sp_number_signs K) [] E0 (tCons te (tCons tf tNil))) σ H ((bigs n k).map V.int) :=
  el_call (ea_cons h (ea_cons h' ea_nil)) fun _ _ _ q _ => ⟨n, k, rfl, h0, h1, hk, q⟩
def sp_signs_number (K : PySem.W.Frag) : Sp := fun vs H Q _ => ∃ (a : Addr) (ns : List Int), vs = [.ref a] ∧ SqL K H a (ns.map V.int) ∧ Sigs ns ∧ RetV (.int (numOf ns)) H Q
/-- signs_number -/
def t_signs_number (K : PySem.W.Frag) : TS :=
    (tSeq (tAsg (tC (.int 0)) (gName 1))
    (tSeq (tFor (iList K (tVar 0)) (gName 2)
    (tSeq (tDrop (tCall (sp_look_sign K) [] C8.E0 (tCons (tVar 2) tNil)))
    (tAsg (tOp rAddI (tOp rMulI (tVar 1) (tC (.int 97))) (tVar 2)) (gName 1))))
    (tRet (tVar 1))))
theorem pure_signs_number (_ : Wd K mg) (vs : List V) (H : Hp) (Q : VK) (E : XK) (h : sp_signs_number K vs H Q E) : t_signs_number K { nx := fun _ H' => Q .non H', rt := Q } (start ["signs", "number", "sign"] vs) H := by
  obtain ⟨a, ns, rfl, hs, hn, k⟩ := h
  refine q_asg ev_c fun H1 e1 => ?_
  have hs := ex_l e1 hs
  refine q_forLn (ev_var rfl) hs (fun i σ' H' => Ex H1 H' ∧ ∃ o, σ' = [some (.ref a), some (.int (numOf (ns.take i))), o]) (fun H2 e2 => ⟨e2, none, rfl⟩) (fun i σ' H' _ p => ex_l p.1 hs) ?_ ?_
  · rintro i x σ' H' hx ⟨e, o, rfl⟩
    rw [List.getElem?_map, Option.map_eq_some_iff] at hx
    obtain ⟨n, hx, rfl⟩ := hx
    have hn := hn n (List.mem_of_getElem? hx)
    refine q_drop (ev_look_sign (ev_var rfl) hn) fun H2 e2 => ?_
    refine s_asg (v := .int (numOf (ns.take (i + 1)))) (ev_is (ev_op (ev_op (ev_var rfl) ev_c (rv_mul (.inr (by decide)))) (ev_var rfl) rv_I0) (by rw [take_snoc hx, numOf_snoc])) fun H3 e3 => ⟨(e.trans e2).trans e3, _, rfl⟩
  · rintro σ' H' ⟨e, o, rfl⟩
    rw [List.length_map, List.take_length]
    exact s_ret (ev_var rfl) fun H2 e2 => k H2 ((e1.trans e).trans e2)
section
variable {P : Program} {w : World} {K : PySem.W.Frag} {mg : Str → Option Value} {base : Heap}
theorem sc_signs_number : FnScope ["signs", "number", "sign"] ["signs"] (defScope s_signs_number) := ⟨rfl, rfl, rfl, by decide +kernel, rfl, by decide +kernel, by decide +kernel⟩
theorem dr_signs_number (T : Wd K mg) (c_look_sign : Cal P w K mg base 1 "look_sign" (sp_look_sign K) []) {f : Addr} {cdv : Value} {A : Around} {outer : List Env} {s : Shared} {H : Hp} {E : XK} (hr : Room 1 (A.deeper (envOfC "signs_number" (defScope s_signs_number) s.heap.objs.size f cdv))) :
    PSs (cxOf CX0 P w K mg base ["signs", "number", "sign"] "signs_number" (defScope s_signs_number) f cdv A outer s H E).nox (defBody s_signs_number) (t_signs_number K) := by
  have nd := sc_signs_number.nd
  exact (pss_cons (ps_set (i := 1) nd rfl (by first | exact Or.inl rfl | exact Or.inr rfl) pe_int)
    (pss_cons (ps_for PassesOwn.never rfl (pi_list (pv 0)) (pg_name (i := 2) nd rfl (by first | exact Or.inl rfl | exact Or.inr rfl))
    (pss_cons (ps_expr (pe_c c_look_sign hr (by decide) rfl (pa_cons (pv 2) pa_nil)))
    (pss_one (ps_set (i := 1) nd rfl (by first | exact Or.inl rfl | exact Or.inr rfl) (pe_op op_add (pe_op op_mul (pv 1) (pe_gc rfl (T.int 24))) (pv 2))))))
    (pss_one (ps_ret (pv 1)))))
theorem ok_signs_number (T : Wd K mg) (c_look_sign : Cal P w K mg base 1 "look_sign" (sp_look_sign K) []) {f : Addr} {fd : FuncData} (F : FunD K ds_signs_number.name ds_signs_number.qual ds_signs_number.params ds_signs_number.body ds_signs_number.scope [] [] f fd) : FnOk P w K mg base CX0 2 f fd ["signs"] (sp_signs_number K) := by
  refine FunD.ok F sc_signs_number (fun vs H Q E h => ?_) (fun cdv A outer s H vs Q E hr h => ⟨t_signs_number K, PSs.nox (dr_signs_number T c_look_sign hr), pure_signs_number T vs H Q E h⟩)
  obtain ⟨_, _, e, _⟩ := h
  rw [e]
  all_goals rfl
end
theorem ev_signs_number {σ : L2.St} {H : Hp} {te : TE} {a : Addr} {ns : List Int} (h : Ev te σ H (.ref a)) (hs : SqL K H a (ns.map V.int)) (hn : Sigs ns) : Ev (tCall (sp_signs_number K) [] E0 (tCons te tNil)) σ H (.int (numOf ns)) :=
  ev_call (ea_cons h ea_nil) fun _ e _ q _ => ⟨a, ns, rfl, ex_l e hs, hn, q⟩
/-! ### names -/
def sp_is_house (_ : PySem.W.Frag) : Sp := fun vs H Q _ => ∃ (a : Int), vs = [.int a] ∧ 0 ≤ a ∧ a ≤ 31 ∧ RetV (.bl true) H Q
/-- is_house -/
def t_is_house (K : PySem.W.Frag) : TS :=
    (tRet (tChain rLeI rLeI (tC (.int 0)) (tVar 0) (tC (.int 31))))
theorem pure_is_house (_ : Wd K mg) (vs : List V) (H : Hp) (Q : VK) (E : XK) (h : sp_is_house K vs H Q E) : t_is_house K { nx := fun _ H' => Q .non H', rt := Q } (start ["number"] vs) H := by
  obtain ⟨a, rfl, h0, h1, k⟩ := h
  refine s_ret (v := .bl true) (ev_is (ev_chain ev_c (ev_var rfl) rv_I0 (fun _ => ev_c) (fun _ => rv_I0)) (by simp; omega)) k
section
variable {P : Program} {w : World} {K : PySem.W.Frag} {mg : Str → Option Value} {base : Heap}
theorem sc_is_house : FnScope ["number"] ["number"] (defScope s_is_house) := ⟨rfl, rfl, rfl, by decide +kernel, rfl, by decide +kernel, by decide +kernel⟩
theorem dr_is_house (T : Wd K mg) {f : Addr} {cdv : Value} {A : Around} {outer : List Env} {s : Shared} {H : Hp} {E : XK} (hr : Room 0 (A.deeper (envOfC "is_house" (defScope s_is_house) s.heap.objs.size f cdv))) :
    PSs (cxOf CX0 P w K mg base ["number"] "is_house" (defScope s_is_house) f cdv A outer s H E).nox (defBody s_is_house) (t_is_house K) := by
  have nd := sc_is_house.nd
  exact (pss_one (ps_ret (pe_chain op_le op_le pe_int (pv 0) (pe_gc rfl (T.int 30)))))
theorem ok_is_house (T : Wd K mg) {f : Addr} {fd : FuncData} (F : FunD K ds_is_house.name ds_is_house.qual ds_is_house.params ds_is_house.body ds_is_house.scope [] [] f fd) : FnOk P w K mg base CX0 1 f fd ["number"] (sp_is_house K) := by
  refine FunD.ok F sc_is_house (fun vs H Q E h => ?_) (fun cdv A outer s H vs Q E hr h => ⟨t_is_house K, PSs.nox (dr_is_house T  hr), pure_is_house T vs H Q E h⟩)
  obtain ⟨_, e, _⟩ := h
  rw [e]
  all_goals rfl
end
theorem ev_is_house {σ : L2.St} {H : Hp} {te : TE} {a : Int} (h : Ev te σ H (.int a)) (h0 : 0 ≤ a ∧ a ≤ 31) : Ev (tCall (sp_is_house K) [] E0 (tCons te tNil)) σ H (.bl true) :=
  ev_call (ea_cons h ea_nil) fun _ _ _ q _ => ⟨a, rfl, h0.1, h0.2, q⟩
def letS : Str := " abcdefghijklmnopqrstuvwxyz"
structure NameOk (s : Str) : Prop where
  l1 : 1 ≤ s.cps.size
  l4 : s.cps.size ≤ 4
  az : ∀ c ∈ s.cps.toList, 97 ≤ c ∧ c ≤ 122
theorem let_codes : letS.cps.toList = 32 :: (List.range 26).map (· + 97) := by decide +kernel
theorem in_let {c : Nat} (h : 97 ≤ c ∧ c ≤ 122) : decide (c ∈ letS.cps.toList) = true := by
  rw [let_codes]
  refine decide_eq_true (List.mem_cons_of_mem _ (List.mem_map.mpr ⟨c - 97, List.mem_range.mpr (by omega), by omega⟩))
def sp_is_name (_ : PySem.W.Frag) : Sp := fun vs H Q _ => ∃ (s : Str), vs = [.str s] ∧ NameOk s ∧ RetV (.bl true) H Q
/-- is_name -/
def t_is_name (K : PySem.W.Frag) : TS :=
    (tSeq (tIfS (tOr (tNot (tTest (tChain rLeI rLeI (tC (.int 1)) (tCB rLenT (tCons (tVar 0) tNil)) (tC (.int 4))))) (tTest (tOp rInS (tC (.str " ")) (tVar 0)))) (tRet (tC (.bl false))) tNext)
    (tRet (tCB (rAll K) (tCons (tLc (iStr (tVar 0)) (gName 1) tYes (tOp rInS (tVar 1) (tC (.str " abcdefghijklmnopqrstuvwxyz"))) [1]) tNil))))
theorem ret_cb1 {σ : L2.St} {H : Hp} {D : Ends} {r : List V → Hp → VK → Prop} {ta : TE} (h : ta σ H fun x H1 => r [x] H1 D.rt) : tRet (tCB r (tCons ta tNil)) D σ H := h
theorem lcS_any {σ : L2.St} {H : Hp} {te : TE} {t : TT} {tl : TE} {g : TG} {vs : List Nat} {Q : VK} {s : Str} (h : Ev tl σ H (.str s)) (Pv : Addr → Nat → Hp → Prop) (h0 : ∀ Dl H1, H Dl = none → Ex H H1 → Pv Dl 0 (upd H1 Dl (.lst [])))
    (hs : ∀ Dl (i : Nat) c H', s.cps[i]? = some c → Pv Dl i H' → g (.str ⟨#[c]⟩) (wipe σ vs) H' fun σ2 H2 => wipe σ2 vs = wipe σ vs ∧ t σ2 H2 fun b H3 => if b = true then te σ2 H3 fun y H4 => ∃ acc, H4 Dl = some (.lst acc) ∧ acc.length < sizeLine ∧ Pv Dl (i + 1) (upd H4 Dl (.lst (acc ++ [y]))) else Pv Dl (i + 1) H3)
    (hd : ∀ Dl H', Pv Dl s.cps.size H' → Q (.ref Dl) H') : tLc (iStr tl) g t te vs σ H Q := h H (Ex.refl H) _ fun H1 e1 => ⟨s, rfl, fun Dl hD => by
  refine ⟨fun i m H' => m = s.cps.size - i ∧ i ≤ s.cps.size ∧ Pv Dl i H', ⟨s.cps.size, by simp, Nat.zero_le _, h0 Dl H1 (fresh_back e1 hD) e1⟩, ?_⟩
  rintro i m H' ⟨rfl, hi, p⟩
  by_cases hlt : i < s.cps.size
  · refine .inr ⟨hlt, Pv Dl (i + 1), fun H2 p2 => ⟨s.cps.size - (i + 1), by omega, rfl, hlt, p2⟩, fun x H2 y => ?_⟩
    obtain ⟨e, c, hc, e2⟩ := y
    subst e e2
    exact hs Dl i c _ hc p
  · have e : i = s.cps.size := by omega
    subst e
    exact .inl ⟨Nat.le_refl _, hd Dl H' p⟩⟩
theorem pure_is_name (_ : Wd K mg) (vs : List V) (H : Hp) (Q : VK) (E : XK) (h : sp_is_name K vs H Q E) : t_is_name K { nx := fun _ H' => Q .non H', rt := Q } (start ["name", "sign"] vs) H := by
  obtain ⟨s, rfl, ⟨l1, l4, az⟩, k⟩ := h
  have ln : Ev (tCB rLenT (tCons (tVar 0) tNil)) [some (.str s), none] H (.int (s.cps.size : Int)) := ev_lenS (ev_var rfl) (by show s.cps.size ≤ 100000; omega)
  refine q_when (b := false) (et_is (et_or (et_not (et_test (ev_chain ev_c ln rv_I0 (fun _ => ev_c) (fun _ => rv_I0)))) (fun _ => et_test (b := false) ?_)) (by simp; omega)) (fun h => nomatch h) fun _ H1 e1 => ?_
  · refine ev_op ev_c (ev_var rfl) fun H9 _ Q q => ⟨32, s, by decide +kernel, rfl, ?_⟩
    rw [decide_eq_false (fun z => by have := az 32 z; omega)]
    exact q H9 (Ex.refl H9)
  · refine ret_cb1 ?_
    refine lcS_any (s := s) (ev_var rfl) (fun Dl i H' => H Dl = none ∧ Ex H H' ∧ H' Dl = some (.lst ((List.replicate i true).map V.bl))) (fun Dl H2 hD e2 => ⟨fresh_back e1 hD, Ex.mut (e1.trans e2) (fresh_back e1 hD), upd_same⟩) (fun Dl i c H' hc p => ?_) fun Dl H' p => ?_
    · obtain ⟨hD, e, hl⟩ := p
      have hi : i < s.cps.size := by
        rcases Nat.lt_or_ge i s.cps.size with h | h
        · exact h
        · rw [Array.getElem?_eq_none h] at hc; cases hc
      have hm := az c (by rw [← Array.getElem?_toList] at hc; exact List.mem_of_getElem? hc)
      refine ⟨rfl, _, rfl, c, letS, rfl, rfl, ?_⟩
      rw [in_let hm]
      refine ⟨_, hl, by rw [List.length_map, List.length_replicate]; exact sz_lt (by omega), hD, Ex.mut e hD, ?_⟩
      rw [upd_same, List.replicate_succ', List.map_append]
      rfl
    · obtain ⟨hD, e, hl⟩ := p
      refine ⟨Dl, List.replicate s.cps.size true, rfl, sq_of hl, ?_⟩
      have ea : (List.replicate s.cps.size true).all id = true := by simp
      rw [ea]
      exact k H' e
section
variable {P : Program} {w : World} {K : PySem.W.Frag} {mg : Str → Option Value} {base : Heap}
theorem sc_is_name : FnScope ["name", "sign"] ["name"] (defScope s_is_name) := ⟨rfl, rfl, rfl, by decide +kernel, rfl, by decide +kernel, by decide +kernel⟩
theorem dr_is_name (T : Wd K mg) {f : Addr} {cdv : Value} {A : Around} {outer : List Env} {s : Shared} {H : Hp} {E : XK} (hr : Room 0 (A.deeper (envOfC "is_name" (defScope s_is_name) s.heap.objs.size f cdv))) :
    PSs (cxOf CX0 P w K mg base ["name", "sign"] "is_name" (defScope s_is_name) f cdv A outer s H E).nox (defBody s_is_name) (t_is_name K) := by
  have nd := sc_is_name.nd
  exact (pss_cons (ps_if (PW.pt (pw_or (pt_not (pt_chain op_le op_le pe_int (pe_callB call_len_str (by rfl) (T.free 97) (by decide +kernel) (pa_cons (pv 0) pa_nil)) (pe_gc rfl (T.int 36)))) (pw_or1 (pt_cmpR op_inS pe_str (pv 0) (by rfl))))) (pss_one (ps_ret pe_bl)) pss_nil)
    (pss_one (ps_ret (pe_callB (cr_all rfl) (by rfl) (T.free 95) (by decide +kernel) (pa_cons (pe_lc (own := [("sign", 1)]) (g := (gName 1)) (tt := tYes) rfl nd (pi_str (pv 0)) (blkOk_by (by kernel_rfl)) (fun _ _ _ _ _ => (pg_name (i := 1) nd rfl (by first | exact Or.inl rfl | exact Or.inr rfl))) (fun _ _ _ _ _ => pts_nil) (fun _ _ _ _ _ => (pe_cmpR op_inS (pv 1) (pe_gc rfl (T.str 37)) (by rfl)))) pa_nil)))))
theorem ok_is_name (T : Wd K mg) {f : Addr} {fd : FuncData} (F : FunD K ds_is_name.name ds_is_name.qual ds_is_name.params ds_is_name.body ds_is_name.scope [] [] f fd) : FnOk P w K mg base CX0 1 f fd ["name"] (sp_is_name K) := by
  refine FunD.ok F sc_is_name (fun vs H Q E h => ?_) (fun cdv A outer s H vs Q E hr h => ⟨t_is_name K, PSs.nox (dr_is_name T  hr), pure_is_name T vs H Q E h⟩)
  obtain ⟨_, e, _⟩ := h
  rw [e]
  all_goals rfl
end
theorem ev_is_name {σ : L2.St} {H : Hp} {te : TE} {s : Str} (h : Ev te σ H (.str s)) (hn : NameOk s) : Ev (tCall (sp_is_name K) [] E0 (tCons te tNil)) σ H (.bl true) :=
  ev_call (ea_cons h ea_nil) fun _ _ _ q _ => ⟨s, rfl, hn, q⟩
end

end K85
end
section
set_option maxHeartbeats 400000
namespace K85
open PySem PySem.Spec PyProof.Rows
open L2 hiding CX0 E0 pass0
open C8 Evl
/-! ### tactics -/
local macro_rules | `(tactic| walk_at "side") => `(tactic| first | omega | assumption | rfl | decide)
local macro_rules | `(tactic| walk_at "at") => `(tactic| first | (refine at_int ?_ ?_ <;> first | omega | (simp; omega)) | assumption)
local macro_rules | `(tactic| walk_at "rv") => `(tactic| first
  | with_reducible exact rv_I0
  | ((with_reducible apply rv_eq); rfl)
  | ((with_reducible apply rv_ne); rfl)
  | ((with_reducible apply rv_mod); first | omega | decide)
  | ((with_reducible apply rv_mul); omega)
  | ((with_reducible apply rv_div); omega)
  | ((with_reducible apply rv_ixL); · assumption
     · walk_at "at")
  | ((with_reducible apply rv_ixT); · assumption
     · walk_at "at"))
local macro_rules | `(tactic| walk_at "ev") => `(tactic| first
  | ((with_reducible apply ev_var); rfl)
  | with_reducible exact ev_c
  | ((with_reducible apply ev_isN); walk_at "ev")
  | ((with_reducible apply ev_notN); walk_at "ev")
  | ((with_reducible apply ev_op); · walk_at "ev"
     · walk_at "ev"
     · walk_at "rv")
  | ((with_reducible apply ev_un); · walk_at "ev"
     · with_reducible exact ru_neg)
  | ((with_reducible apply ev_chain); · walk_at "ev"
     · walk_at "ev"
     · walk_at "rv"
     · intro _; walk_at "ev"
     · intro _; walk_at "rv")
  | ((with_reducible apply ev_len); · walk_at "ev"
     · assumption)
  | ((with_reducible apply ev_lenT); · walk_at "ev"
     · assumption)
  | ((with_reducible apply ev_andV); · walk_at "ev"
     · intro _; walk_at "ev")
  | with_reducible assumption)
local macro_rules | `(tactic| walk_at "evt") => `(tactic| first
  | ((with_reducible apply et_or); · walk_at "evt"
     · intro _; walk_at "evt")
  | ((with_reducible apply et_and); · walk_at "evt"
     · intro _; walk_at "evt")
  | ((with_reducible apply et_not); walk_at "evt")
  | ((with_reducible apply et_test); walk_at "ev")
  | ((with_reducible apply et_B); walk_at "ev")
  | with_reducible assumption)
local macro_rules | `(tactic| walk_at "bool") => `(tactic| first | rfl | (simp; done) | (simp; omega) | (simp; intros; omega) | grind)
section
variable {K : PySem.W.Frag} {mg : Str → Option Value}
section
variable {σ : L2.St} {H : Hp} {D : Ends} {tl te ty td tv : TE} {g : TG} {tu tz : TS} {vs : List Nat}
theorem q_forStr {s : Str} (h : Ev tl σ H (.str s)) (Pv : Nat → L2.St → Hp → Prop) (h0 : ∀ H1, Ex H H1 → Pv 0 σ H1)
    (hs : ∀ (i : Nat) c σ' H', s.cps[i]? = some c → Pv i σ' H' → g (.str ⟨#[c]⟩) σ' H' fun σ2 H2 => tu { D with nx := Pv (i + 1), ct := Pv (i + 1), bk := tz D } σ2 H2) (hd : ∀ σ' H', Pv s.cps.size σ' H' → tz D σ' H') : tSeq (tFor (iStr tl) g tu) tz D σ H := h H (Ex.refl H) _ fun H1 e1 => ⟨s, rfl, by
  refine ⟨fun i m σ' H' => m = s.cps.size - i ∧ i ≤ s.cps.size ∧ Pv i σ' H', ⟨s.cps.size, by simp, Nat.zero_le _, h0 H1 e1⟩, ?_⟩
  rintro i m σ' H' ⟨rfl, hi, p⟩
  by_cases hlt : i < s.cps.size
  · refine .inr ⟨hlt, Pv (i + 1), fun σ2 H2 p2 => ⟨s.cps.size - (i + 1), by omega, rfl, hlt, p2⟩, fun x H2 y => ?_⟩
    obtain ⟨e, c, hc, e2⟩ := y
    subst e e2
    exact hs i c _ _ hc p
  · have e : i = s.cps.size := by omega
    subst e
    exact .inl ⟨Nat.le_refl _, hd σ' H' p⟩⟩
theorem et_din {d : Addr} {kvs : List (Key × V)} {k : Key} (hk : Ev ty σ H (kV k)) (hd : Ev td σ H (.ref d)) (h : H d = some (.dK kvs)) : EvT (tB (tDIn ty td)) σ H (valV kvs k).isSome := fun H1 e1 Q q =>
  hk H1 e1 _ fun H2 e2 => hd H2 (e1.trans e2) _ fun H3 e3 => ⟨d, _, rfl, DGet.k ((e1.trans (e2.trans e3)) _ _ h), _, rfl, q H3 (e2.trans e3)⟩
theorem s_dput {d : Addr} {kvs : List (Key × V)} {k : Key} {v : V} (hv : Ev tv σ H v) (hd : Ev td σ H (.ref d)) (hk : Ev ty σ H (kV k)) (h : H d = some (.dK kvs)) (hz : kvs.length < 100000) (q : ∀ H1, Ex H H1 → D.nx σ (upd H1 d (.dK (putK kvs k v)))) : sDPut td ty tv D σ H :=
  hv H (Ex.refl H) _ fun H1 e1 => hd H1 e1 _ fun H2 e2 => hk H2 (e1.trans e2) _ fun H3 e3 => ⟨d, _, rfl, DPut.k (((e1.trans e2).trans e3) _ _ h) (sz_lt hz), q H3 ((e1.trans e2).trans e3)⟩
theorem q_dput {d : Addr} {kvs : List (Key × V)} {k : Key} {v : V} (hv : Ev tv σ H v) (hd : Ev td σ H (.ref d)) (hk : Ev ty σ H (kV k)) (h : H d = some (.dK kvs)) (hz : kvs.length < 100000) (q : ∀ H1, Ex H H1 → tz D σ (upd H1 d (.dK (putK kvs k v)))) : tSeq (sDPut td ty tv) tz D σ H :=
  s_dput (D := { D with nx := tz D }) hv hd hk h hz q
theorem eil_lcL {a : Addr} {xs : List V} (d : Nat → PyData) (h : Ev tl σ H (.ref a)) (hx : SqL K H a xs) (hz : xs.length ≤ 40000)
    (hs : ∀ (i : Nat) x H', xs[i]? = some x → Ex H H' → ∀ P : L2.St → Hp → Prop, (∀ σ2, wipe σ2 vs = wipe σ vs → EvI K te σ2 H' (d i) → P σ2 H') → g x (wipe σ vs) H' P) : EvIL K (tLc (iList K tl) g tYes te vs) σ H ((List.range xs.length).map d) := fun H0 e0 Q q => by
  refine lcL_any (Ev.mono e0 h) (ex_l e0 hx) (fun Dl i H' => H0 Dl = none ∧ Ex H0 H' ∧ ∃ ys, H' Dl = some (.lst ys) ∧ ImAll K H' ys ((List.range i).map d)) (fun Dl H1 hD e1 => ⟨hD, Ex.mut e1 hD, [], upd_same, .nil⟩) (fun Dl i H' _ p => ex_l (e0.trans p.2.1) hx) (fun Dl i x H' hi p => ?_) fun Dl H' p => ?_
  · obtain ⟨hD, e, ys, hy, iy⟩ := p
    refine hs i x H' hi (e0.trans e) _ fun σ2 hw hev => ⟨hw, ?_⟩
    show te σ2 H' _
    refine hev H' (Ex.refl H') _ fun v H4 e4 i4 => ?_
    have hl := iy.length
    rw [List.length_map, List.length_range] at hl
    have hxl := (List.getElem?_eq_some_iff.mp hi).1
    refine ⟨ys, e4 _ _ hy, sz_lt (by omega), hD, Ex.mut (e.trans e4) hD, _, upd_same, ?_⟩
    rw [List.range_succ, List.map_append]
    exact ImAll.tx (Tx.updL (e4 _ _ hy)) _ _ (ImAll.app (ImAll.ex e4 iy) (.cons i4 .nil))
  · obtain ⟨hD, e, ys, hy, iy⟩ := p
    exact q Dl ys H' hD e hy iy
end
theorem range_getD {α β : Type} (f : α → β) (d : α) : ∀ xs : List α, (List.range xs.length).map (fun i => f (xs.getD i d)) = xs.map f := fun xs => by
  apply List.ext_getElem
  · simp
  · intro i h1 h2
    simp at h1
    simp [h1]
/-! names by numbers -/
def numF (cs : List Nat) : Int := cs.foldl (fun (n : Int) (c : Nat) => n * 27 + ((c : Int) - 96)) 0
def nameNum (s : Str) : Int := numF s.cps.toList
theorem numF_snoc (cs : List Nat) (c : Nat) : numF (cs ++ [c]) = numF cs * 27 + ((c : Int) - 96) := by unfold numF; rw [List.foldl_append]; rfl
theorem occ_let : ∀ c : Nat, c < 123 → 97 ≤ c → Builtin.Str.occurrences letS ⟨#[c]⟩ 0 letS.length 1 = [c - 96] := by decide +kernel
def sp_name_number (_ : PySem.W.Frag) : Sp := fun vs H Q _ => ∃ (s : Str), vs = [.str s] ∧ NameOk s ∧ RetV (.int (nameNum s)) H Q
/-- name_number -/
def t_name_number (K : PySem.W.Frag) : TS :=
    (tSeq (tAsg (tC (.int 0)) (gName 1))
    (tSeq (tFor (iStr (tVar 0)) (gName 2)
    (tAsg (tOp rAddI (tOp rMulI (tVar 1) (tC (.int 27))) (tM1 rSIx (tC (.str " abcdefghijklmnopqrstuvwxyz")) (tVar 2))) (gName 1)))
    (tRet (tVar 1))))
theorem take_snocA {s : Str} {i c : Nat} (h : s.cps[i]? = some c) : s.cps.toList.take (i + 1) = s.cps.toList.take i ++ [c] := take_snoc (by rw [Array.getElem?_toList]; exact h)
theorem code_mem {s : Str} {i c : Nat} (h : s.cps[i]? = some c) : c ∈ s.cps.toList := by
  rw [← Array.getElem?_toList] at h
  exact List.mem_of_getElem? h
theorem pure_name_number (_ : Wd K mg) (vs : List V) (H : Hp) (Q : VK) (E : XK) (h : sp_name_number K vs H Q E) : t_name_number K { nx := fun _ H' => Q .non H', rt := Q } (start ["name", "number", "sign"] vs) H := by
  obtain ⟨s, rfl, ⟨l1, l4, az⟩, k⟩ := h
  refine q_asg ev_c fun H1 e1 => ?_
  refine q_forStr (s := s) (ev_var rfl) (fun i σ' H' => Ex H1 H' ∧ ∃ o, σ' = [some (.str s), some (.int (numF (s.cps.toList.take i))), o]) (fun H2 e2 => ⟨e2, none, rfl⟩) ?_ ?_
  · rintro i c σ' H' hc ⟨e, o, rfl⟩
    have hm := az c (code_mem hc)
    refine s_asg (v := .int (numF (s.cps.toList.take (i + 1)))) (ev_is (ev_op (ev_op (ev_var rfl) ev_c (rv_mul (.inr (by decide)))) (y := .int ((c - 96 : Nat) : Int)) ?_ rv_I0) (by rw [take_snocA hc, numF_snoc]; congr 2; omega)) fun H3 e3 => ⟨e.trans e3, _, rfl⟩
    intro H9 e9 Q q
    exact ⟨⟨_, rfl⟩, _, rfl, letS, ⟨#[c]⟩, c - 96, [], rfl, rfl, occ_let c (by omega) (by omega), q H9 (Ex.refl H9)⟩
  · rintro σ' H' ⟨e, o, rfl⟩
    rw [List.take_of_length_le (by rw [Array.length_toList]; exact Nat.le_refl _)]
    exact s_ret (ev_var rfl) fun H2 e2 => k H2 ((e1.trans e).trans e2)
section
variable {P : Program} {w : World} {K : PySem.W.Frag} {mg : Str → Option Value} {base : Heap}
theorem sc_name_number : FnScope ["name", "number", "sign"] ["name"] (defScope s_name_number) := ⟨rfl, rfl, rfl, by decide +kernel, rfl, by decide +kernel, by decide +kernel⟩
theorem dr_name_number (T : Wd K mg) {f : Addr} {cdv : Value} {A : Around} {outer : List Env} {s : Shared} {H : Hp} {E : XK} (hr : Room 0 (A.deeper (envOfC "name_number" (defScope s_name_number) s.heap.objs.size f cdv))) :
    PSs (cxOf CX0 P w K mg base ["name", "number", "sign"] "name_number" (defScope s_name_number) f cdv A outer s H E).nox (defBody s_name_number) (t_name_number K) := by
  have nd := sc_name_number.nd
  exact (pss_cons (ps_set (i := 1) nd rfl (by first | exact Or.inl rfl | exact Or.inr rfl) pe_int)
    (pss_cons (ps_for PassesOwn.never rfl (pi_str (pv 0)) (pg_name (i := 2) nd rfl (by first | exact Or.inl rfl | exact Or.inr rfl))
    (pss_one (ps_set (i := 1) nd rfl (by first | exact Or.inl rfl | exact Or.inr rfl) (pe_op op_add (pe_op op_mul (pv 1) pe_int) (pe_m1 PySem.F.slot_str_index PySem.F.type_str_index mt_sindex (pe_gc rfl (T.str 37)) (pv 2))))))
    (pss_one (ps_ret (pv 1)))))
theorem ok_name_number (T : Wd K mg) {f : Addr} {fd : FuncData} (F : FunD K ds_name_number.name ds_name_number.qual ds_name_number.params ds_name_number.body ds_name_number.scope [] [] f fd) : FnOk P w K mg base CX0 1 f fd ["name"] (sp_name_number K) := by
  refine FunD.ok F sc_name_number (fun vs H Q E h => ?_) (fun cdv A outer s H vs Q E hr h => ⟨t_name_number K, PSs.nox (dr_name_number T  hr), pure_name_number T vs H Q E h⟩)
  obtain ⟨_, e, _⟩ := h
  rw [e]
  all_goals rfl
end
theorem ev_name_number {σ : L2.St} {H : Hp} {te : TE} {s : Str} (h : Ev te σ H (.str s)) (hn : NameOk s) : Ev (tCall (sp_name_number K) [] E0 (tCons te tNil)) σ H (.int (nameNum s)) :=
  ev_call (ea_cons h ea_nil) fun _ _ _ q _ => ⟨s, rfl, hn, q⟩
theorem numF_from : ∀ (cs : List Nat) (n : Int), 0 ≤ n → (∀ c ∈ cs, 97 ≤ c ∧ c ≤ 122) → n ≤ cs.foldl (fun (n : Int) (c : Nat) => n * 27 + ((c : Int) - 96)) n ∧ (cs ≠ [] → n < cs.foldl (fun (n : Int) (c : Nat) => n * 27 + ((c : Int) - 96)) n)
  | [], n, _, _ => ⟨Int.le_refl _, fun h => absurd rfl h⟩
  | c :: cs, n, h0, h => by
    have hc := h c List.mem_cons_self
    have ih := numF_from cs (n * 27 + ((c : Int) - 96)) (by omega) fun d hd => h d (List.mem_cons_of_mem _ hd)
    rw [List.foldl_cons]
    exact ⟨by omega, fun _ => by omega⟩
theorem numF_nonneg (cs : List Nat) (h : ∀ c ∈ cs, 97 ≤ c ∧ c ≤ 122) : 0 ≤ numF cs ∧ (cs ≠ [] → 0 < numF cs) := numF_from cs 0 (by decide) h
theorem let_at : ∀ d : Nat, d < 27 → 1 ≤ d → letS.cps.toList[d]? = some (d + 96) := by decide +kernel
def sp_name_of (_ : PySem.W.Frag) : Sp := fun vs H Q _ => ∃ (s : Str), vs = [.int (nameNum s)] ∧ NameOk s ∧ RetV (.str s) H Q
/-- name_of -/
def t_name_of (K : PySem.W.Frag) : TS :=
    (tSeq (tAsg (tC (.str "")) (gName 1))
    (tSeq (tWhile (tTest (tOp rGtI (tVar 0) (tC (.int 0))))
    (tSeq (tAsg (tOp rAddSt (tOp rIxS (tC (.str " abcdefghijklmnopqrstuvwxyz")) (tOp rModI (tVar 0) (tC (.int 27)))) (tVar 1)) (gName 1))
    (tAsg (tOp rDivI (tVar 0) (tC (.int 27))) (gName 0))))
    (tSeq (tIfS (tNot (tB (tCall (sp_is_name K) [] C8.E0 (tCons (tVar 1) tNil)))) tNever tNext)
    (tRet (tVar 1)))))
theorem pure_name_of (_ : Wd K mg) (vs : List V) (H : Hp) (Q : VK) (E : XK) (h : sp_name_of K vs H Q E) : t_name_of K { nx := fun _ H' => Q .non H', rt := Q } (start ["number", "name"] vs) H := by
  obtain ⟨s, rfl, ok, k⟩ := h
  have l4 := ok.l4
  have az := ok.az
  have hl : s.cps.toList.length = s.cps.size := Array.length_toList
  refine q_asg ev_c fun H1 e1 => ?_
  refine q_while (fun m σ' H' => m ≤ s.cps.size ∧ σ' = [some (.int (numF (s.cps.toList.take m))), some (.str ⟨(s.cps.toList.drop m).toArray⟩)] ∧ Ex H H') s.cps.size ⟨Nat.le_refl _, ?_, e1⟩ ?_
  · rw [List.take_of_length_le (by omega), List.drop_of_length_le (by omega)]
    rfl
  · rintro m σ' H' ⟨hm, rfl, e⟩
    have nn := numF_nonneg (s.cps.toList.take m) fun c hc => az c (List.mem_of_mem_take hc)
    refine ⟨decide (0 < m), et_is (et_test (ev_op (ev_var rfl) ev_c rv_I0)) ?_, fun hb H2 e2 => ⟨_, fun σ2 H2 z => z, ?_⟩, fun hb H2 e2 => ?_⟩
    · by_cases h0 : 0 < m
      · have := nn.2 (by
          intro z
          have := congrArg List.length z
          rw [List.length_take, List.length_nil] at this
          omega)
        rw [decide_eq_true h0, decide_eq_true this]
      · have : m = 0 := by omega
        subst this
        rfl
    · have h0 : 0 < m := of_decide_eq_true hb
      obtain ⟨n, rfl⟩ : ∃ n, m = n + 1 := ⟨m - 1, by omega⟩
      obtain ⟨c, hc⟩ : ∃ c, s.cps[n]? = some c := ⟨_, Array.getElem?_eq_getElem (by omega)⟩
      have hr := az c (code_mem hc)
      have ts := take_snocA hc
      have n1 := numF_nonneg (s.cps.toList.take n) fun c hc => az c (List.mem_of_mem_take hc)
      rw [ts, numF_snoc]
      have hd : (s.cps.toList.drop n) = c :: s.cps.toList.drop (n + 1) := by
        rw [← Array.getElem?_toList] at hc
        obtain ⟨hlt, hcc⟩ := List.getElem?_eq_some_iff.mp hc
        rw [List.drop_eq_getElem_cons hlt, hcc]
      refine q_asg (v := .str ⟨(s.cps.toList.drop n).toArray⟩) (ev_op (x := .str ⟨#[c]⟩) (ev_op ev_c (ev_op (ev_var rfl) ev_c (rv_mod (by decide))) fun H9 _ Q q => ⟨letS, _, c, rfl, rfl, sz_of (by decide +kernel), at_nat (by omega) ?_, q H9 (Ex.refl H9)⟩) (ev_var rfl) fun H9 _ Q q => ⟨⟨#[c]⟩, ⟨(s.cps.toList.drop (n + 1)).toArray⟩, rfl, rfl, ?_, ?_⟩) fun H3 e3 => ?_
      · have e9 : ((numF (s.cps.toList.take n) * 27 + ((c : Int) - 96)) % 27).toNat = c - 96 := by omega
        rw [e9, let_at (c - 96) (by omega) (by omega)]
        congr 1
        omega
      · refine sz_of ?_
        show (#[c] : Array Nat).size + ((s.cps.toList.drop (n + 1)).toArray).size ≤ 100000
        simp
        omega
      · have ea : (⟨#[c]⟩ ++ ⟨(s.cps.toList.drop (n + 1)).toArray⟩ : Str) = ⟨(s.cps.toList.drop n).toArray⟩ := by
          rw [hd]
          show Str.mk _ = Str.mk _
          congr 1
          apply Array.toList_inj.mp
          simp
        rw [ea]
        exact q H9 (Ex.refl H9)
      · refine s_asg (v := .int (numF (s.cps.toList.take n))) (ev_is (ev_op (ev_var rfl) ev_c (rv_div (by decide))) (congrArg V.int (by omega))) fun H4 e4 => ⟨n, by omega, by omega, rfl, ((e.trans e2).trans e3).trans e4⟩
    · have h0 : ¬ 0 < m := of_decide_eq_false hb
      have : m = 0 := by omega
      subst this
      have es : (⟨(s.cps.toList.drop 0).toArray⟩ : Str) = s := by
        rw [List.drop_zero, Array.toArray_toList]
      rw [es]
      refine q_when (b := false) (et_is (et_not (et_B (ev_is_name (ev_var rfl) ok))) rfl) (fun h => nomatch h) fun _ H3 e3 => ?_
      exact s_ret (ev_var rfl) fun H4 e4 => k H4 (((e.trans e2).trans e3).trans e4)
section
variable {P : Program} {w : World} {K : PySem.W.Frag} {mg : Str → Option Value} {base : Heap}
theorem sc_name_of : FnScope ["number", "name"] ["number"] (defScope s_name_of) := ⟨rfl, rfl, rfl, by decide +kernel, rfl, by decide +kernel, by decide +kernel⟩
theorem dr_name_of (T : Wd K mg) (c_is_name : Cal P w K mg base 1 "is_name" (sp_is_name K) []) {f : Addr} {cdv : Value} {A : Around} {outer : List Env} {s : Shared} {H : Hp} {E : XK} (hr : Room 1 (A.deeper (envOfC "name_of" (defScope s_name_of) s.heap.objs.size f cdv))) :
    PSs (cxOf CX0 P w K mg base ["number", "name"] "name_of" (defScope s_name_of) f cdv A outer s H E).nox (defBody s_name_of) (t_name_of K) := by
  have nd := sc_name_of.nd
  exact (pss_cons (ps_set (i := 1) nd rfl (by first | exact Or.inl rfl | exact Or.inr rfl) pe_str)
    (pss_cons (ps_while PassesOwn.never (pt_cmpR op_gt (pv 0) pe_int (nomark _))
    (pss_cons (ps_set (i := 1) nd rfl (by first | exact Or.inl rfl | exact Or.inr rfl) (pe_op op_add_str (pe_ix ix_str (pe_gc rfl (T.str 37)) (pe_op op_mod (pv 0) pe_int) (fun _ _ => rfl)) (pv 1)))
    (pss_one (ps_set (i := 0) nd rfl (by first | exact Or.inl rfl | exact Or.inr rfl) (pe_op op_fdiv (pv 0) pe_int)))))
    (pss_cons (ps_if (pt_not (pt_val (pe_c c_is_name hr (by decide) rfl (pa_cons (pv 1) pa_nil)))) pss_never pss_nil)
    (pss_one (ps_ret (pv 1))))))
theorem ok_name_of (T : Wd K mg) (c_is_name : Cal P w K mg base 1 "is_name" (sp_is_name K) []) {f : Addr} {fd : FuncData} (F : FunD K ds_name_of.name ds_name_of.qual ds_name_of.params ds_name_of.body ds_name_of.scope [] [] f fd) : FnOk P w K mg base CX0 2 f fd ["number"] (sp_name_of K) := by
  refine FunD.ok F sc_name_of (fun vs H Q E h => ?_) (fun cdv A outer s H vs Q E hr h => ⟨t_name_of K, PSs.nox (dr_name_of T c_is_name hr), pure_name_of T vs H Q E h⟩)
  obtain ⟨_, e, _⟩ := h
  rw [e]
  all_goals rfl
end
theorem ev_name_of {σ : L2.St} {H : Hp} {te : TE} {s : Str} (h : Ev te σ H (.int (nameNum s))) (hn : NameOk s) : Ev (tCall (sp_name_of K) [] E0 (tCons te tNil)) σ H (.str s) :=
  ev_call (ea_cons h ea_nil) fun _ _ _ q _ => ⟨s, rfl, hn, q⟩
end

end K85
end
section
set_option maxHeartbeats 400000
namespace K85
open PySem PySem.Spec PyProof.Rows
open L2 hiding CX0 E0 pass0
open C8 Evl
/-! ### tactics -/
local macro_rules | `(tactic| walk_at "side") => `(tactic| first | omega | assumption | rfl | decide)
local macro_rules | `(tactic| walk_at "at") => `(tactic| first | (refine at_int ?_ ?_ <;> first | omega | (simp; omega)) | assumption)
local macro_rules | `(tactic| walk_at "rv") => `(tactic| first
  | with_reducible exact rv_I0
  | ((with_reducible apply rv_eq); rfl)
  | ((with_reducible apply rv_ne); rfl)
  | ((with_reducible apply rv_mod); first | omega | decide)
  | ((with_reducible apply rv_mul); omega)
  | ((with_reducible apply rv_div); omega)
  | ((with_reducible apply rv_ixL); · assumption
     · walk_at "at")
  | ((with_reducible apply rv_ixT); · assumption
     · walk_at "at"))
local macro_rules | `(tactic| walk_at "ev") => `(tactic| first
  | ((with_reducible apply ev_var); rfl)
  | with_reducible exact ev_c
  | ((with_reducible apply ev_isN); walk_at "ev")
  | ((with_reducible apply ev_notN); walk_at "ev")
  | ((with_reducible apply ev_op); · walk_at "ev"
     · walk_at "ev"
     · walk_at "rv")
  | ((with_reducible apply ev_un); · walk_at "ev"
     · with_reducible exact ru_neg)
  | ((with_reducible apply ev_chain); · walk_at "ev"
     · walk_at "ev"
     · walk_at "rv"
     · intro _; walk_at "ev"
     · intro _; walk_at "rv")
  | ((with_reducible apply ev_len); · walk_at "ev"
     · assumption)
  | ((with_reducible apply ev_lenT); · walk_at "ev"
     · assumption)
  | ((with_reducible apply ev_andV); · walk_at "ev"
     · intro _; walk_at "ev")
  | with_reducible assumption)
local macro_rules | `(tactic| walk_at "evt") => `(tactic| first
  | ((with_reducible apply et_or); · walk_at "evt"
     · intro _; walk_at "evt")
  | ((with_reducible apply et_and); · walk_at "evt"
     · intro _; walk_at "evt")
  | ((with_reducible apply et_not); walk_at "evt")
  | ((with_reducible apply et_test); walk_at "ev")
  | ((with_reducible apply et_B); walk_at "ev")
  | with_reducible assumption)
local macro_rules | `(tactic| walk_at "bool") => `(tactic| first | rfl | (simp; done) | (simp; omega) | (simp; intros; omega) | grind)
section
variable {K : PySem.W.Frag} {mg : Str → Option Value}
/-! ### news -/
abbrev Near : Type := Int × Int × Int × Int
structure News where
  house : Int
  number : Int
  near : List Near
  names : List Str
def nearD (t : Near) : PyData := .tuple [.int t.1, .int t.2.1, .tuple [.int t.2.2.1, .int t.2.2.2]]
def News.data (N : News) : PyData := .tuple [.int N.house, .int N.number, .tuple (N.near.map nearD), .tuple (N.names.map PyData.str)]
structure NearOk (house : Int) (near : List Near) : Prop where
  len : near.length ≤ 5
  up : near.Pairwise (fun a b => a.1 < b.1)
  ok : ∀ t ∈ near, t.1 ≠ house ∧ 0 ≤ t.1 ∧ t.1 ≤ 31 ∧ 1 ≤ t.2.1 ∧ t.2.1 ≤ 10 ∧ 1 ≤ t.2.2.1 ∧ t.2.2.1 ≤ 9000 ∧ 1 ≤ t.2.2.2 ∧ t.2.2.2 ≤ 9000
structure NamesOk (ss : List Str) : Prop where
  len : ss.length ≤ 4
  nd : ss.Nodup
  ok : ∀ s ∈ ss, NameOk s
structure News.Ok (N : News) : Prop where
  h0 : 0 ≤ N.house ∧ N.house ≤ 31
  n0 : 0 ≤ N.number ∧ N.number ≤ 900000
  near : NearOk N.house N.near
  names : NamesOk N.names
  srt : PyProof.Rows.sortedS N.names = true
theorem near_inv {H : Hp} {v : V} {t : Near} (h : Im K H v (nearD t)) : ∃ a b, v = .ref a ∧ SqT K H a [.int t.1, .int t.2.1, .ref b] ∧ SqT K H b [.int t.2.2.1, .int t.2.2.2] := by
  obtain ⟨a, xs, rfl, hp, hi⟩ := Im.tup_inv h
  cases hi with
  | cons h1 hi =>
    cases hi with
    | cons h2 hi =>
      cases hi with
      | cons h3 hi =>
        cases hi
        cases h1
        cases h2
        obtain ⟨b, ys, rfl, hb, i2⟩ := Im.tup_inv h3
        have e := ImAll.ints_eq (ns := [t.2.2.1, t.2.2.2]) i2
        subst e
        exact ⟨a, b, rfl, hp, hb⟩
def sp_look_at_near (K : PySem.W.Frag) : Sp := fun vs H Q _ => ∃ (house : Int) (near : List Near) (a : Addr) (xs : List V), vs = [.int house, .ref a] ∧ NearOk house near ∧ SqL K H a xs ∧ ImAll K H xs (near.map nearD) ∧ RetV .non H Q
/-- look_at_near -/
def t_look_at_near (K : PySem.W.Frag) : TS :=
    (tSeq (tIfS (tTest (tOp rGtI (tCB (Evl.rLenS K) (tCons (tVar 1) tNil)) (tC (.int 5)))) tNever tNext)
    (tSeq (tAsg (tDisp [((tVar 0), (tC (.bl true)))]) (gName 2))
    (tFor (iList K (tVar 1)) (gTup K 3 (gCons (gName 3) (gCons (gName 4) (gCons (gName 5) gNil))))
    (tSeq (tIfS (tOr (tNot (tB (tCall (sp_is_house K) [] C8.E0 (tCons (tVar 3) tNil)))) (tOr (tB (tDIn (tVar 3) (tVar 2))) (tNot (tTest (tChain rLeI rLeI (tC (.int 1)) (tVar 4) (tC (.int 10))))))) tNever tNext)
    (tSeq (tIfS (tOr (tNot (tTest (tChain rLeI rLeI (tC (.int 1)) (tOp (rIxT K) (tVar 5) (tC (.int 0))) (tC (.int 9000))))) (tNot (tTest (tChain rLeI rLeI (tC (.int 1)) (tOp (rIxT K) (tVar 5) (tC (.int 1))) (tC (.int 9000)))))) tNever tNext)
    (sDPut (tVar 2) (tVar 3) (tC (.bl true))))))))
theorem pure_look_at_near (_ : Wd K mg) (vs : List V) (H : Hp) (Q : VK) (E : XK) (h : sp_look_at_near K vs H Q E) : t_look_at_near K { nx := fun _ H' => Q .non H', rt := Q } (start ["house", "near", "seen", "other", "quiet", "pair"] vs) H := by
  obtain ⟨house, near, a, xs, rfl, ⟨nl, up, ok⟩, hs, hi, k⟩ := h
  have xl : xs.length = near.length := by rw [hi.length, List.length_map]
  refine q_when (b := false) (et_is (et_test (ev_op (ev_len (ev_var rfl) hs) ev_c rv_I0)) (by simp; omega)) (fun h => nomatch h) fun _ H1 e1 => ?_
  have hs := ex_l e1 hs
  have hi := ImAll.ex e1 hi
  intro d hd
  refine ⟨_, rfl, upd_same, [(Sum.inl house, .bl true)], rfl, Nat.le_of_ble_eq_true rfl, ?_⟩
  refine s_forL (D := { nx := fun _ H' => Q .non H', rt := Q }) (xs := xs) (ev_var rfl) (ex_l ((Ex.new hd).mut hd) hs) (fun i σ' H' => Ex H1 H' ∧ (∃ o1 o2 o3, σ' = [some (.int house), some (.ref a), some (.ref d), o1, o2, o3]) ∧ ∃ kvs, H' d = some (.dK kvs) ∧ kvs.length = i + 1 ∧ ∀ z : Int, z ≠ house → (∀ t ∈ near.take i, t.1 ≠ z) → valV kvs (Sum.inl z) = none)
    (fun H2 e2 => ⟨((Ex.new hd).mut hd).trans e2, ⟨none, none, none, rfl⟩, _, e2 _ _ upd_same, rfl, fun z hz _ => ?_⟩) (fun i σ' H' _ p => ex_l p.1 hs) ?_ (fun σ' H' p => k H' (e1.trans p.1))
  · show valV [(Sum.inl house, V.bl true)] (Sum.inl z : Key) = none
    rw [valV_neg (fun q => hz (Sum.inl.inj q).symm)]
    rfl
  · rintro i x σ' H' hx ⟨e, ⟨o1, o2, o3, rfl⟩, kvs, hk, kl, kn⟩
    obtain ⟨dd, hdd, ix⟩ := hi.get hx
    rw [List.getElem?_map, Option.map_eq_some_iff] at hdd
    obtain ⟨t, ht, rfl⟩ := hdd
    have ob := ok t (List.mem_of_getElem? ht)
    have hil := (List.getElem?_eq_some_iff.mp ht).1
    obtain ⟨ta, tb, rfl, hta, htb⟩ := near_inv (Im.ex e ix)
    have fresh : ∀ u ∈ near.take i, u.1 ≠ t.1 := fun u hu z => by
      obtain ⟨j, hj⟩ := List.mem_iff_getElem?.mp hu
      rw [List.getElem?_take] at hj
      by_cases hji : j < i
      · rw [if_pos hji] at hj
        obtain ⟨h1, h2⟩ := List.getElem?_eq_some_iff.mp hj
        obtain ⟨h3, h4⟩ := List.getElem?_eq_some_iff.mp ht
        have := List.pairwise_iff_getElem.mp up j i h1 h3 hji
        rw [h2, h4] at this
        omega
      · rw [if_neg hji] at hj
        cases hj
    have kno := kn t.1 ob.1 fresh
    refine ⟨ta, _, rfl, hta, rfl, _, _, rfl, _, _, rfl, _, _, rfl, rfl, ?_⟩
    have b1 : Ev (tOp (rIxT K) (tVar 5) (tC (.int 0))) [some (.int house), some (.ref a), some (.ref d), some (.int t.1), some (.int t.2.1), some (.ref tb)] H' (.int t.2.2.1) := ev_op (ev_var rfl) ev_c (rv_ixT htb (at_nat (by decide) rfl))
    have b2 : Ev (tOp (rIxT K) (tVar 5) (tC (.int 1))) [some (.int house), some (.ref a), some (.ref d), some (.int t.1), some (.int t.2.1), some (.ref tb)] H' (.int t.2.2.2) := ev_op (ev_var rfl) ev_c (rv_ixT htb (at_nat (by decide) rfl))
    refine q_when (b := false) (et_is (et_or (et_not (et_B (ev_is_house (ev_var rfl) (by omega)))) (fun _ => et_or (et_din (k := Sum.inl t.1) (ev_var rfl) (ev_var rfl) hk) (fun _ => et_not (et_test (ev_chain ev_c (ev_var rfl) rv_I0 (fun _ => ev_c) (fun _ => rv_I0)))))) (by rw [kno]; simp; omega)) (fun h => nomatch h) fun _ H2 e2 => ?_
    refine q_when (b := false) (et_is (et_or (et_not (et_test (ev_chain ev_c (b1.mono e2) rv_I0 (fun _ => ev_c) (fun _ => rv_I0)))) (fun _ => et_not (et_test (ev_chain ev_c (b2.mono e2) rv_I0 (fun _ => ev_c) (fun _ => rv_I0))))) (by simp; omega)) (fun h => nomatch h) fun _ H3 e3 => ?_
    refine s_dput (k := Sum.inl t.1) ev_c (ev_var rfl) (ev_var rfl) (e3 _ _ (e2 _ _ hk)) (by omega) fun H4 e4 => ⟨Ex.mut (((e.trans e2).trans e3).trans e4) hd, ⟨_, _, _, rfl⟩, _, upd_same, ?_, fun z hz hf => ?_⟩
    · rw [putK_new _ kno, List.length_append, kl]
      rfl
    · rw [valV_put, if_neg (fun q => hf t (by rw [take_snoc ht]; simp) (Sum.inl.inj q).symm)]
      exact kn z hz fun u hu => hf u (by rw [take_snoc ht]; exact List.mem_append_left _ hu)
section
variable {P : Program} {w : World} {K : PySem.W.Frag} {mg : Str → Option Value} {base : Heap}
theorem sc_look_at_near : FnScope ["house", "near", "seen", "other", "quiet", "pair"] ["house", "near"] (defScope s_look_at_near) := ⟨rfl, rfl, rfl, by decide +kernel, rfl, by decide +kernel, by decide +kernel⟩
theorem dr_look_at_near (T : Wd K mg) (c_is_house : Cal P w K mg base 1 "is_house" (sp_is_house K) []) {f : Addr} {cdv : Value} {A : Around} {outer : List Env} {s : Shared} {H : Hp} {E : XK} (hr : Room 1 (A.deeper (envOfC "look_at_near" (defScope s_look_at_near) s.heap.objs.size f cdv))) :
    PSs (cxOf CX0 P w K mg base ["house", "near", "seen", "other", "quiet", "pair"] "look_at_near" (defScope s_look_at_near) f cdv A outer s H E).nox (defBody s_look_at_near) (t_look_at_near K) := by
  have nd := sc_look_at_near.nd
  exact (pss_cons (ps_if (pt_cmpR op_gt (pe_callB call_len_seq (by rfl) (T.free 97) (by decide +kernel) (pa_cons (pv 1) pa_nil)) (pe_gc rfl (T.int 32)) (nomark _)) pss_never pss_nil)
    (pss_cons (ps_set (i := 2) nd rfl (by first | exact Or.inl rfl | exact Or.inr rfl) (pe_disp (pps_cons (pv 0) pe_bl pps_nil) (by rfl) (by rfl) (fun z => by cases z) (by decide)))
    (pss_one (ps_for PassesOwn.never rfl (pi_list (pv 1)) (pg_tup rfl (pgs_cons (pg_name (i := 3) nd rfl (by first | exact Or.inl rfl | exact Or.inr rfl)) (pgs_cons (pg_name (i := 4) nd rfl (by first | exact Or.inl rfl | exact Or.inr rfl)) (pgs_cons (pg_name (i := 5) nd rfl (by first | exact Or.inl rfl | exact Or.inr rfl)) pgs_nil))))
    (pss_cons (ps_if (PW.pt (pw_or (pt_not (pt_val (pe_c c_is_house hr (by decide) rfl (pa_cons (pv 3) pa_nil)))) (pw_or (pt_cmp (pc_din (hu_of hr) (pv 3) (pv 2))) (pw_or1 (pt_not (pt_chain op_le op_le pe_int (pv 4) (pe_gc rfl (T.int 33)))))))) pss_never pss_nil)
    (pss_cons (ps_if (PW.pt (pw_or (pt_not (pt_chain op_le op_le pe_int (pe_ix ix_tup (pv 5) pe_int (fun _ _ => rfl)) (pe_gc rfl (T.int 34)))) (pw_or1 (pt_not (pt_chain op_le op_le pe_int (pe_ix ix_tup (pv 5) pe_int (fun _ _ => rfl)) (pe_gc rfl (T.int 34))))))) pss_never pss_nil)
    (pss_one (ps_dput (hu_of hr) (pv 2) (pv 3) pe_bl rfl))))))))
theorem ok_look_at_near (T : Wd K mg) (c_is_house : Cal P w K mg base 1 "is_house" (sp_is_house K) []) {f : Addr} {fd : FuncData} (F : FunD K ds_look_at_near.name ds_look_at_near.qual ds_look_at_near.params ds_look_at_near.body ds_look_at_near.scope [] [] f fd) : FnOk P w K mg base CX0 2 f fd ["house", "near"] (sp_look_at_near K) := by
  refine FunD.ok F sc_look_at_near (fun vs H Q E h => ?_) (fun cdv A outer s H vs Q E hr h => ⟨t_look_at_near K, PSs.nox (dr_look_at_near T c_is_house hr), pure_look_at_near T vs H Q E h⟩)
  obtain ⟨_, _, _, _, e, _⟩ := h
  rw [e]
  all_goals rfl
end
def sp_look_at_names (K : PySem.W.Frag) : Sp := fun vs H Q _ => ∃ (a : Addr) (ss : List Str), vs = [.ref a] ∧ NamesOk ss ∧ SqL K H a (ss.map V.str) ∧ RetV .non H Q
/-- look_at_names -/
def t_look_at_names (K : PySem.W.Frag) : TS :=
    (tSeq (tIfS (tOr (tTest (tOp rGtI (tCB (Evl.rLenS K) (tCons (tVar 0) tNil)) (tC (.int 4)))) (tTest (tOp rLtI (tLenSetA K (tVar 0)) (tCB (Evl.rLenS K) (tCons (tVar 0) tNil))))) tNever tNext)
    (tFor (iList K (tVar 0)) (gName 1)
    (tIfS (tNot (tB (tCall (sp_is_name K) [] C8.E0 (tCons (tVar 1) tNil)))) tNever tNext)))
theorem pure_look_at_names (_ : Wd K mg) (vs : List V) (H : Hp) (Q : VK) (E : XK) (h : sp_look_at_names K vs H Q E) : t_look_at_names K { nx := fun _ H' => Q .non H', rt := Q } (start ["names", "name"] vs) H := by
  obtain ⟨a, ss, rfl, ⟨nl, nd, ok⟩, hs, k⟩ := h
  have ln : Ev (tCB (Evl.rLenS K) (tCons (tVar 0) tNil)) [some (.ref a), none] H (.int (ss.length : Int)) := ev_is (ev_len (ev_var rfl) hs) (by rw [List.length_map])
  refine q_when (b := false) (et_is (et_or (et_test (ev_op ln ev_c rv_I0)) (fun _ => et_test (ev_op (ev_setS (ev_var rfl) hs nd (by omega)) ln rv_I0))) (by simp; omega)) (fun h => nomatch h) fun _ H1 e1 => ?_
  have hs := ex_l e1 hs
  refine s_forLn (ev_var rfl) hs (fun i σ' H' => Ex H1 H' ∧ ∃ o, σ' = [some (.ref a), o]) (fun H2 e2 => ⟨e2, none, rfl⟩) (fun i σ' H' _ p => ex_l p.1 hs) ?_ (fun σ' H' p => k H' (e1.trans p.1))
  rintro i x σ' H' hx ⟨e, o, rfl⟩
  rw [List.getElem?_map, Option.map_eq_some_iff] at hx
  obtain ⟨s, hx, rfl⟩ := hx
  have hn := ok s (List.mem_of_getElem? hx)
  exact s_when (b := false) (et_is (et_not (et_B (ev_is_name (ev_var rfl) hn))) rfl) (fun h => nomatch h) fun _ H2 e2 => ⟨e.trans e2, _, rfl⟩
section
variable {P : Program} {w : World} {K : PySem.W.Frag} {mg : Str → Option Value} {base : Heap}
theorem sc_look_at_names : FnScope ["names", "name"] ["names"] (defScope s_look_at_names) := ⟨rfl, rfl, rfl, by decide +kernel, rfl, by decide +kernel, by decide +kernel⟩
theorem dr_look_at_names (T : Wd K mg) (c_is_name : Cal P w K mg base 1 "is_name" (sp_is_name K) []) {f : Addr} {cdv : Value} {A : Around} {outer : List Env} {s : Shared} {H : Hp} {E : XK} (hr : Room 1 (A.deeper (envOfC "look_at_names" (defScope s_look_at_names) s.heap.objs.size f cdv))) :
    PSs (cxOf CX0 P w K mg base ["names", "name"] "look_at_names" (defScope s_look_at_names) f cdv A outer s H E).nox (defBody s_look_at_names) (t_look_at_names K) := by
  have nd := sc_look_at_names.nd
  exact (pss_cons (ps_if (PW.pt (pw_or (pt_cmpR op_gt (pe_callB call_len_seq (by rfl) (T.free 97) (by decide +kernel) (pa_cons (pv 0) pa_nil)) (pe_gc rfl (T.int 35)) (nomark _)) (pw_or1 (pt_cmpR op_lt (pe_lenSetA (by rfl) (T.free 97) (by rfl) (T.free 103) (pv 0)) (pe_callB call_len_seq (by rfl) (T.free 97) (by decide +kernel) (pa_cons (pv 0) pa_nil)) (nomark _))))) pss_never pss_nil)
    (pss_one (ps_for PassesOwn.never rfl (pi_list (pv 0)) (pg_name (i := 1) nd rfl (by first | exact Or.inl rfl | exact Or.inr rfl))
    (pss_one (ps_if (pt_not (pt_val (pe_c c_is_name hr (by decide) rfl (pa_cons (pv 1) pa_nil)))) pss_never pss_nil)))))
theorem ok_look_at_names (T : Wd K mg) (c_is_name : Cal P w K mg base 1 "is_name" (sp_is_name K) []) {f : Addr} {fd : FuncData} (F : FunD K ds_look_at_names.name ds_look_at_names.qual ds_look_at_names.params ds_look_at_names.body ds_look_at_names.scope [] [] f fd) : FnOk P w K mg base CX0 2 f fd ["names"] (sp_look_at_names K) := by
  refine FunD.ok F sc_look_at_names (fun vs H Q E h => ?_) (fun cdv A outer s H vs Q E hr h => ⟨t_look_at_names K, PSs.nox (dr_look_at_names T c_is_name hr), pure_look_at_names T vs H Q E h⟩)
  obtain ⟨_, _, e, _⟩ := h
  rw [e]
  all_goals rfl
end
/-! sorted texts -/
theorem srt_pw : ∀ (r : List Str) (p : Str), PyProof.Rows.risingS p r = true → (p :: r).Pairwise (fun a b => a.cps.toList ≤ b.cps.toList)
  | [], p, _ => List.pairwise_singleton _ _
  | x :: r, p, h => by
    have h : (!ltCps x.cps.toList p.cps.toList && PyProof.Rows.risingS x r) = true := h
    obtain ⟨h1, h2⟩ := Bool.and_eq_true_iff.mp h
    have ih := srt_pw r x h2
    have le : p.cps.toList ≤ x.cps.toList := by
      rw [PyProof.Rows.ltCps_eq] at h1
      simpa using h1
    refine List.pairwise_cons.mpr ⟨fun y hy => ?_, ih⟩
    rcases List.mem_cons.mp hy with rfl | hy
    · exact le
    · exact List.le_trans le ((List.pairwise_cons.mp ih).1 y hy)
theorem srt_pw' {l : List Str} (h : PyProof.Rows.sortedS l = true) : l.Pairwise (fun a b => a.cps.toList ≤ b.cps.toList) := by
  cases l with
  | nil => exact List.Pairwise.nil
  | cons p r => exact srt_pw r p h
theorem str_ext {a b : Str} (h : a.cps.toList = b.cps.toList) : a = b := by
  cases a
  cases b
  congr 1
  exact Array.toList_inj.mp h
theorem srt_uniq {l m : List Str} (h1 : PyProof.Rows.sortedS l = true) (h2 : PyProof.Rows.sortedS m = true) (p : l.Perm m) : l = m :=
  List.Perm.eq_of_pairwise (fun a b _ _ x y => str_ext (List.le_antisymm x y)) (srt_pw' h1) (srt_pw' h2) p
def sp_made_news (K : PySem.W.Frag) : Sp := fun vs H Q _ => ∃ (N : News) (ss : List Str) (a b : Addr) (xs : List V), vs = [.int N.house, .int N.number, .ref a, .ref b] ∧ N.Ok ∧ SqL K H a xs ∧ ImAll K H xs (N.near.map nearD) ∧ SqL K H b (ss.map V.str) ∧ ss.Perm N.names ∧ RetI K N.data H Q
/-- made_news -/
def t_made_news (K : PySem.W.Frag) : TS :=
    (tSeq (tIfS (tOr (tNot (tB (tCall (sp_is_house K) [] C8.E0 (tCons (tVar 0) tNil)))) (tNot (tTest (tChain rLeI rLeI (tC (.int 0)) (tVar 1) (tC (.int 900000)))))) tNever tNext)
    (tSeq (tDrop (tCall (sp_look_at_near K) [] C8.E0 (tCons (tVar 0) (tCons (tVar 2) tNil))))
    (tSeq (tDrop (tCall (sp_look_at_names K) [] C8.E0 (tCons (tVar 3) tNil)))
    (tSeq (tAsg (tLc (iList K (tVar 2)) (gTup K 3 (gCons (gName 5) (gCons (gName 6) (gCons (gName 7) gNil)))) tYes (tTup (tCons (tVar 5) (tCons (tVar 6) (tCons (tTup (tCons (tOp (rIxT K) (tVar 7) (tC (.int 0))) (tCons (tOp (rIxT K) (tVar 7) (tC (.int 1))) tNil))) tNil)))) [5, 6, 7]) (gName 4))
    (tRet (tTup (tCons (tVar 0) (tCons (tVar 1) (tCons (tCB (rTupS K) (tCons (tCB (rSortedT K) (tCons (tVar 4) tNil)) tNil)) (tCons (tCB (rTupS K) (tCons (tCB (rSortedS K) (tCons (tVar 3) tNil)) tNil)) tNil))))))))))
theorem pure_made_news (_ : Wd K mg) (vs : List V) (H : Hp) (Q : VK) (E : XK) (h : sp_made_news K vs H Q E) : t_made_news K { nx := fun _ H' => Q .non H', rt := Q } (start ["house", "number", "near", "names", "wires", "other", "quiet", "pair"] vs) H := by
  obtain ⟨N, ss, a, b, xs, rfl, ok, hs, hi, hn, pm, k⟩ := h
  have h0 := ok.h0
  have n0 := ok.n0
  have nok : NamesOk ss := ⟨by rw [pm.length_eq]; exact ok.names.len, (List.Perm.nodup_iff pm).mpr ok.names.nd, fun s h => ok.names.ok s (pm.mem_iff.mp h)⟩
  have xl : xs.length = N.near.length := by rw [hi.length, List.length_map]
  have nl := ok.near.len
  refine q_when (b := false) (et_is (et_or (et_not (et_B (ev_is_house (ev_var rfl) h0))) (fun _ => et_not (et_test (ev_chain ev_c (ev_var rfl) rv_I0 (fun _ => ev_c) (fun _ => rv_I0))))) (by simp; omega)) (fun h => nomatch h) fun _ H1 e1 => ?_
  have hs := ex_l e1 hs
  have hi := ImAll.ex e1 hi
  have hn := ex_l e1 hn
  refine q_drop (v := .non) (ev_call (ea_cons (ev_var rfl) (ea_cons (ev_var rfl) ea_nil)) fun _ e _ q _ => ⟨N.house, N.near, a, xs, rfl, ok.near, ex_l e hs, ImAll.ex e hi, q⟩) fun H2 e2 => ?_
  have hs := ex_l e2 hs
  have hi := ImAll.ex e2 hi
  have hn := ex_l e2 hn
  refine q_drop (v := .non) (ev_call (ea_cons (ev_var rfl) ea_nil) fun _ e _ q _ => ⟨b, ss, rfl, nok, ex_l e hn, q⟩) fun H3 e3 => ?_
  have hs := ex_l e3 hs
  have hi := ImAll.ex e3 hi
  have hn := ex_l e3 hn
  refine q_asgIL (K := K) (ds := (List.range xs.length).map fun i => nearD (N.near.getD i (0, 0, 0, 0))) (eil_lcL (fun i => nearD (N.near.getD i (0, 0, 0, 0))) (ev_var rfl) hs (by omega) fun i x H4 hx e4 P hP => ?_) fun lw ys H4 hlw e4 h4 i4 => ?_
  · obtain ⟨dd, hdd, ix⟩ := hi.get hx
    rw [List.getElem?_map, Option.map_eq_some_iff] at hdd
    obtain ⟨t, ht, rfl⟩ := hdd
    obtain ⟨ta, tb, rfl, hta, htb⟩ := near_inv (Im.ex e4 ix)
    have eg : N.near.getD i (0, 0, 0, 0) = t := by rw [List.getD_eq_getElem?_getD, ht]; rfl
    refine ⟨ta, _, rfl, hta, rfl, _, _, rfl, _, _, rfl, _, _, rfl, rfl, hP _ rfl ?_⟩
    rw [eg]
    exact evi_tup (evi_cons (evi_int (ev_var rfl)) (evi_cons (evi_int (ev_var rfl)) (evi_cons (evi_tup (evi_cons (evi_int (ev_op (ev_var rfl) ev_c (rv_ixT htb (at_nat (by decide) rfl)))) (evi_cons (evi_int (ev_op (ev_var rfl) ev_c (rv_ixT htb (at_nat (by decide) rfl)))) evi_nil)) (Nat.le_of_ble_eq_true rfl)) evi_nil))) (Nat.le_of_ble_eq_true rfl)
  · have er : ((List.range xs.length).map fun i => nearD (N.near.getD i (0, 0, 0, 0))) = N.near.map nearD := by
      rw [xl]
      exact range_getD nearD (0, 0, 0, 0) N.near
    rw [er] at i4
    have hn := ex_l e4 hn
    have yl : ys.length = N.near.length := by rw [i4.length, List.length_map]
    refine s_retI (K := K) (d := N.data) (evi_tup (evi_cons (evi_int (ev_var rfl)) (evi_cons (evi_int (ev_var rfl)) (evi_cons (evi_tupNew fun H5 e5 Q q => ?_) (evi_cons (evi_tupNew fun H5 e5 Q q => ?_) evi_nil)))) (Nat.le_of_ble_eq_true rfl)) fun v H5 e5 i5 => k v H5 ((((e1.trans e2).trans e3).trans e4).trans e5) i5
    · refine ⟨_, rfl, lw, ys, N.near.map (·.1), rfl, sq_of (e5 _ _ h4), by omega, ?_, ?_, fun p hp => q p ys _ hp (Ex.new hp) upd_same (ImAll.ex (e5.trans (Ex.new hp)) i4)⟩
      · have key : ∀ (ts : List Near) (ys : List V), ImAll K H5 ys (ts.map nearD) → Paired (fun v z => ∃ t r, v = V.ref t ∧ SqT K H5 t (V.int z :: r)) ys (ts.map (·.1)) := fun ts => by
          induction ts with
          | nil => intro ys h; cases h; exact .nil
          | cons t ts ih =>
            intro ys h
            cases h with
            | cons h1 h2 =>
              obtain ⟨ta, tb, rfl, hta, _⟩ := near_inv h1
              exact .cons ⟨ta, _, rfl, hta⟩ (ih _ h2)
        exact key _ _ (ImAll.ex e5 i4)
      · rw [List.pairwise_map]
        exact ok.near.up
    · refine ⟨_, rfl, b, ss, rfl, ex_l e5 hn, by have := nok.len; omega, fun zs p pz sz hp => ?_⟩
      have ez : zs = N.names := srt_uniq sz ok.srt (pz.trans pm)
      subst ez
      exact q p _ _ hp (Ex.new hp) upd_same (ImAll.strs _)
section
variable {P : Program} {w : World} {K : PySem.W.Frag} {mg : Str → Option Value} {base : Heap}
theorem sc_made_news : FnScope ["house", "number", "near", "names", "wires", "other", "quiet", "pair"] ["house", "number", "near", "names"] (defScope s_made_news) := ⟨rfl, rfl, rfl, by decide +kernel, rfl, by decide +kernel, by decide +kernel⟩
theorem dr_made_news (T : Wd K mg) (c_is_house : Cal P w K mg base 1 "is_house" (sp_is_house K) []) (c_look_at_near : Cal P w K mg base 2 "look_at_near" (sp_look_at_near K) []) (c_look_at_names : Cal P w K mg base 2 "look_at_names" (sp_look_at_names K) []) {f : Addr} {cdv : Value} {A : Around} {outer : List Env} {s : Shared} {H : Hp} {E : XK} (hr : Room 2 (A.deeper (envOfC "made_news" (defScope s_made_news) s.heap.objs.size f cdv))) :
    PSs (cxOf CX0 P w K mg base ["house", "number", "near", "names", "wires", "other", "quiet", "pair"] "made_news" (defScope s_made_news) f cdv A outer s H E).nox (defBody s_made_news) (t_made_news K) := by
  have nd := sc_made_news.nd
  exact (pss_cons (ps_if (PW.pt (pw_or (pt_not (pt_val (pe_c c_is_house hr (by decide) rfl (pa_cons (pv 0) pa_nil)))) (pw_or1 (pt_not (pt_chain op_le op_le pe_int (pv 1) (pe_gc rfl (T.int 31))))))) pss_never pss_nil)
    (pss_cons (ps_expr (pe_c c_look_at_near hr (by decide) rfl (pa_cons (pv 0) (pa_cons (pv 2) pa_nil))))
    (pss_cons (ps_expr (pe_c c_look_at_names hr (by decide) rfl (pa_cons (pv 3) pa_nil)))
    (pss_cons (ps_setLc (i := 4) (own := [("other", 5), ("quiet", 6), ("pair", 7)]) (g := (gTup K 3 (gCons (gName 5) (gCons (gName 6) (gCons (gName 7) gNil))))) (tt := tYes) rfl nd rfl rfl (sw_true rfl rfl rfl (by decide +kernel)) (pi_list (pv 2)) (blkOk_by (by kernel_rfl)) (fun _ _ _ _ _ => (pg_tup rfl (pgs_cons (pg_name (i := 5) nd rfl (by first | exact Or.inl rfl | exact Or.inr rfl)) (pgs_cons (pg_name (i := 6) nd rfl (by first | exact Or.inl rfl | exact Or.inr rfl)) (pgs_cons (pg_name (i := 7) nd rfl (by first | exact Or.inl rfl | exact Or.inr rfl)) pgs_nil))))) (fun _ _ _ _ _ => pts_nil) (fun _ _ _ _ _ => (pe_tup (pa_cons (pv 5) (pa_cons (pv 6) (pa_cons (pe_tup (pa_cons (pe_ix ix_tup (pv 7) pe_int (fun _ _ => rfl)) (pa_cons (pe_ix ix_tup (pv 7) pe_int (fun _ _ => rfl)) pa_nil))) pa_nil))))))
    (pss_one (ps_ret (pe_tup (pa_cons (pv 0) (pa_cons (pv 1) (pa_cons (pe_callTy call_tuple_of (by rfl) (T.free 106) (by decide +kernel) (pa_cons (pe_callB (cr_sortedT rfl) (by rfl) (T.free 104) (by decide +kernel) (pa_cons (pv 4) pa_nil)) pa_nil)) (pa_cons (pe_callTy call_tuple_of (by rfl) (T.free 106) (by decide +kernel) (pa_cons (pe_callB cr_sortedS (by rfl) (T.free 104) (by decide +kernel) (pa_cons (pv 3) pa_nil)) pa_nil)) pa_nil)))))))))))
theorem ok_made_news (T : Wd K mg) (c_is_house : Cal P w K mg base 1 "is_house" (sp_is_house K) []) (c_look_at_near : Cal P w K mg base 2 "look_at_near" (sp_look_at_near K) []) (c_look_at_names : Cal P w K mg base 2 "look_at_names" (sp_look_at_names K) []) {f : Addr} {fd : FuncData} (F : FunD K ds_made_news.name ds_made_news.qual ds_made_news.params ds_made_news.body ds_made_news.scope [] [] f fd) : FnOk P w K mg base CX0 3 f fd ["house", "number", "near", "names"] (sp_made_news K) := by
  refine FunD.ok F sc_made_news (fun vs H Q E h => ?_) (fun cdv A outer s H vs Q E hr h => ⟨t_made_news K, PSs.nox (dr_made_news T c_is_house c_look_at_near c_look_at_names hr), pure_made_news T vs H Q E h⟩)
  obtain ⟨_, _, _, _, _, e, _⟩ := h
  rw [e]
  all_goals rfl
end
end

end K85
end
section
set_option maxHeartbeats 400000
namespace K85
open PySem PySem.Spec PyProof.Rows
open L2 hiding CX0 E0 pass0
open C8 Evl
/-! ### tactics -/
local macro_rules | `(tactic| walk_at "side") => `(tactic| first | omega | assumption | rfl | decide)
local macro_rules | `(tactic| walk_at "at") => `(tactic| first | (refine at_int ?_ ?_ <;> first | omega | (simp; omega)) | assumption)
local macro_rules | `(tactic| walk_at "rv") => `(tactic| first
  | with_reducible exact rv_I0
  | ((with_reducible apply rv_eq); rfl)
  | ((with_reducible apply rv_ne); rfl)
  | ((with_reducible apply rv_mod); first | omega | decide)
  | ((with_reducible apply rv_mul); omega)
  | ((with_reducible apply rv_div); omega)
  | ((with_reducible apply rv_ixL); · assumption
     · walk_at "at")
  | ((with_reducible apply rv_ixT); · assumption
     · walk_at "at"))
local macro_rules | `(tactic| walk_at "ev") => `(tactic| first
  | ((with_reducible apply ev_var); rfl)
  | with_reducible exact ev_c
  | ((with_reducible apply ev_isN); walk_at "ev")
  | ((with_reducible apply ev_notN); walk_at "ev")
  | ((with_reducible apply ev_op); · walk_at "ev"
     · walk_at "ev"
     · walk_at "rv")
  | ((with_reducible apply ev_un); · walk_at "ev"
     · with_reducible exact ru_neg)
  | ((with_reducible apply ev_chain); · walk_at "ev"
     · walk_at "ev"
     · walk_at "rv"
     · intro _; walk_at "ev"
     · intro _; walk_at "rv")
  | ((with_reducible apply ev_len); · walk_at "ev"
     · assumption)
  | ((with_reducible apply ev_lenT); · walk_at "ev"
     · assumption)
  | ((with_reducible apply ev_andV); · walk_at "ev"
     · intro _; walk_at "ev")
  | with_reducible assumption)
local macro_rules | `(tactic| walk_at "evt") => `(tactic| first
  | ((with_reducible apply et_or); · walk_at "evt"
     · intro _; walk_at "evt")
  | ((with_reducible apply et_and); · walk_at "evt"
     · intro _; walk_at "evt")
  | ((with_reducible apply et_not); walk_at "evt")
  | ((with_reducible apply et_test); walk_at "ev")
  | ((with_reducible apply et_B); walk_at "ev")
  | with_reducible assumption)
local macro_rules | `(tactic| walk_at "bool") => `(tactic| first | rfl | (simp; done) | (simp; omega) | (simp; intros; omega) | grind)
section
variable {K : PySem.W.Frag} {mg : Str → Option Value}
/-! ### the body of news -/
def nearB (t : Near) : List Int := [t.1, t.2.1] ++ (bigs t.2.2.1 2 ++ bigs t.2.2.2 2)
def nameB (s : Str) : List Int := bigs (nameNum s) 3
def News.body (N : News) : List Int := [N.house] ++ (bigs N.number 3 ++ ([(N.near.length : Int)] ++ (N.near.flatMap nearB ++ ([(N.names.length : Int)] ++ N.names.flatMap nameB))))
theorem numF_lt : ∀ (cs : List Nat) (n b : Int), 0 ≤ n → n < b → (∀ c ∈ cs, 97 ≤ c ∧ c ≤ 122) → cs.foldl (fun (n : Int) (c : Nat) => n * 27 + ((c : Int) - 96)) n < b * 27 ^ cs.length
  | [], n, b, _, h, _ => by rw [List.length_nil, Int.pow_zero, Int.mul_one]; exact h
  | c :: cs, n, b, h0, h1, h => by
    have hc := h c List.mem_cons_self
    have ih := numF_lt cs (n * 27 + ((c : Int) - 96)) (b * 27) (by omega) (by omega) fun d hd => h d (List.mem_cons_of_mem _ hd)
    rw [List.foldl_cons, List.length_cons, Int.pow_succ]
    rw [Int.mul_assoc, Int.mul_comm 27] at ih
    exact ih
theorem nameNum_lt {s : Str} (h : NameOk s) : 0 ≤ nameNum s ∧ nameNum s < 97 ^ 3 := by
  have h1 := numF_lt s.cps.toList 0 1 (by decide) (by decide) h.az
  have h2 := numF_nonneg s.cps.toList h.az
  refine ⟨h2.1, Int.lt_of_lt_of_le h1 ?_⟩
  have l := h.l4
  rw [Int.one_mul, Array.length_toList]
  have : s.cps.size = 0 ∨ s.cps.size = 1 ∨ s.cps.size = 2 ∨ s.cps.size = 3 ∨ s.cps.size = 4 := by omega
  rcases this with e | e | e | e | e <;> rw [e] <;> decide
def sp_news_body (K : PySem.W.Frag) : Sp := fun vs H Q _ => ∃ (v : V) (N : News), vs = [v] ∧ Im K H v N.data ∧ N.Ok ∧ RetI K (.tuple (N.body.map PyData.int)) H Q
/-- news_body -/
def t_news_body (K : PySem.W.Frag) : TS :=
    (tSeq (tAsg (tVar 0) (gTup K 4 (gCons (gName 1) (gCons (gName 2) (gCons (gName 3) (gCons (gName 4) gNil))))))
    (tSeq (tAsg (tOp (rCatS K) (tOp (rCatS K) (tLst (tCons (tVar 1) tNil)) (tCall (sp_number_signs K) [] C8.E0 (tCons (tVar 2) (tCons (tC (.int 3)) tNil)))) (tLst (tCons (tCB (Evl.rLenS K) (tCons (tVar 3) tNil)) tNil))) (gName 5))
    (tSeq (tFor (iTup K (tVar 3)) (gTup K 3 (gCons (gName 6) (gCons (gName 7) (gCons (gName 8) gNil))))
    (tSeq (tDrop (tBM K "list" (rExtS K) (tVar 5) (tCons (tLst (tCons (tVar 6) (tCons (tVar 7) tNil))) tNil)))
    (tSeq (tDrop (tBM K "list" (rExtS K) (tVar 5) (tCons (tCall (sp_number_signs K) [] C8.E0 (tCons (tOp (rIxT K) (tVar 8) (tC (.int 0))) (tCons (tC (.int 2)) tNil))) tNil)))
    (tDrop (tBM K "list" (rExtS K) (tVar 5) (tCons (tCall (sp_number_signs K) [] C8.E0 (tCons (tOp (rIxT K) (tVar 8) (tC (.int 1))) (tCons (tC (.int 2)) tNil))) tNil))))))
    (tSeq (tDrop (tBM K "list" rAppend (tVar 5) (tCons (tCB (Evl.rLenS K) (tCons (tVar 4) tNil)) tNil)))
    (tSeq (tFor (iTup K (tVar 4)) (gName 9)
    (tDrop (tBM K "list" (rExtS K) (tVar 5) (tCons (tCall (sp_number_signs K) [] C8.E0 (tCons (tCall (sp_name_number K) [] C8.E0 (tCons (tVar 9) tNil)) (tCons (tC (.int 3)) tNil))) tNil))))
    (tRet (tCB (rTupS K) (tCons (tVar 5) tNil))))))))
theorem news_inv {H : Hp} {v : V} {N : News} (h : Im K H v N.data) : ∃ p a b xs, v = .ref p ∧ SqT K H p [.int N.house, .int N.number, .ref a, .ref b] ∧ SqT K H a xs ∧ ImAll K H xs (N.near.map nearD) ∧ SqT K H b (N.names.map V.str) := by
  obtain ⟨p, xs, rfl, hp, hi⟩ := Im.tup_inv h
  cases hi with
  | cons h1 hi =>
    cases hi with
    | cons h2 hi =>
      cases hi with
      | cons h3 hi =>
        cases hi with
        | cons h4 hi =>
          cases hi
          cases h1
          cases h2
          obtain ⟨a, x3, rfl, ha, i3⟩ := Im.tup_inv h3
          obtain ⟨b, x4, rfl, hb, i4⟩ := Im.tup_inv h4
          rw [ImAll.strs_eq i4] at hb
          exact ⟨p, a, b, x3, rfl, hp, ha, i3, hb⟩
theorem nearB_len (t : Near) : (nearB t).length = 6 := by unfold nearB; rw [List.length_append, List.length_append, bigs_len, bigs_len]; rfl
theorem nameB_len (s : Str) : (nameB s).length = 3 := bigs_len _ _
theorem flat_len {α : Type} (f : α → List Int) (c : Nat) (h : ∀ a, (f a).length = c) : ∀ xs : List α, (xs.flatMap f).length = c * xs.length
  | [] => by simp
  | x :: xs => by rw [List.flatMap_cons, List.length_append, h, flat_len f c h xs, List.length_cons, Nat.mul_succ]; omega
theorem pure_news_body (_ : Wd K mg) (vs : List V) (H : Hp) (Q : VK) (E : XK) (h : sp_news_body K vs H Q E) : t_news_body K { nx := fun _ H' => Q .non H', rt := Q } (start ["news", "house", "number", "near", "names", "signs", "other", "quiet", "pair", "name"] vs) H := by
  obtain ⟨v, N, rfl, hi, ok, k⟩ := h
  obtain ⟨p, a, b, xs, rfl, hp, ha, ia, hb⟩ := news_inv hi
  have n0 := ok.n0
  have nl := ok.near.len
  have ml := ok.names.len
  have xl : xs.length = N.near.length := by rw [ia.length, List.length_map]
  refine ⟨_, rfl, p, _, rfl, hp, rfl, _, _, rfl, _, _, rfl, _, _, rfl, _, _, rfl, rfl, ?_⟩
  dsimp only
  refine q_asgL (xs := ([N.house] ++ (bigs N.number 3 ++ [(N.near.length : Int)])).map V.int) ?_ fun l H1 hl e1 h1 => ?_
  · refine el_is (xs := ([.int N.house] ++ (bigs N.number 3).map V.int) ++ [.int (N.near.length : Int)]) ?_ (by simp)
    refine el_cat (xs := [.int N.house] ++ (bigs N.number 3).map V.int) (ys := [.int (N.near.length : Int)]) ?_ ?_ (by rw [List.length_append, List.length_map, bigs_len]; exact Nat.le_of_ble_eq_true rfl)
    · exact el_cat (xs := [.int N.house]) (ys := (bigs N.number 3).map V.int) (el_lst (ea_cons (ev_var rfl) ea_nil) (Nat.le_of_ble_eq_true rfl)) (el_number_signs (k := 3) (ev_var rfl) ev_c n0.1 (Int.lt_of_le_of_lt n0.2 (by decide)) (by decide)) (by rw [List.length_map, bigs_len]; exact Nat.le_of_ble_eq_true rfl)
    · exact el_lst (vs := [.int (N.near.length : Int)]) (ea_cons (ev_is (ev_lenT (ev_var rfl) ha) (by rw [xl])) ea_nil) (Nat.le_of_ble_eq_true rfl)
  refine q_forT (ev_var rfl) (ex_t e1 ha) (fun i σ' H' => Ex H H' ∧ (∃ o1 o2 o3, σ' = [some (.ref p), some (.int N.house), some (.int N.number), some (.ref a), some (.ref b), some (.ref l), o1, o2, o3, none]) ∧ H' l = some (.lst ((([N.house] ++ (bigs N.number 3 ++ [(N.near.length : Int)])) ++ (N.near.take i).flatMap nearB).map V.int)))
    (fun H2 e2 => ⟨e1.trans e2, ⟨none, none, none, rfl⟩, by rw [e2 _ _ h1]; simp⟩) (fun i σ' H' _ q => ex_t q.1 ha) ?_ ?_
  · rintro i x σ' H' hx ⟨e, ⟨o1, o2, o3, rfl⟩, hl'⟩
    obtain ⟨dd, hdd, ix⟩ := ia.get hx
    rw [List.getElem?_map, Option.map_eq_some_iff] at hdd
    obtain ⟨t, ht, rfl⟩ := hdd
    have ob := ok.near.ok t (List.mem_of_getElem? ht)
    have hil := (List.getElem?_eq_some_iff.mp ht).1
    obtain ⟨ta, tb, rfl, hta, htb⟩ := near_inv ix
    refine ⟨ta, _, rfl, ex_t e hta, rfl, _, _, rfl, _, _, rfl, _, _, rfl, rfl, ?_⟩
    have sz : ((([N.house] ++ (bigs N.number 3 ++ [(N.near.length : Int)])) ++ (N.near.take i).flatMap nearB).map V.int).length ≤ 1000 := by
      rw [List.length_map, List.length_append, List.length_append, List.length_append, bigs_len, flat_len nearB 6 nearB_len, List.length_take]
      simp
      omega
    refine q_extL (zs := [.int t.1, .int t.2.1]) hl' (ev_var rfl) (el_lst (ea_cons (ev_var rfl) (ea_cons (ev_var rfl) ea_nil)) (Nat.le_of_ble_eq_true rfl)) (by show _ + 2 ≤ _; omega) fun H2 e2 => ?_
    have x2 := Ex.mut (o := .lst ((([N.house] ++ (bigs N.number 3 ++ [(N.near.length : Int)])) ++ (N.near.take i).flatMap nearB).map V.int ++ [.int t.1, .int t.2.1])) (e.trans e2) hl
    refine q_extL (zs := (bigs t.2.2.1 2).map V.int) upd_same (ev_var rfl) (el_number_signs (k := 2) (ev_op (ev_var rfl) ev_c (rv_ixT (ex_t x2 htb) (at_nat (by decide) rfl))) ev_c (by omega) (Int.lt_of_le_of_lt ob.2.2.2.2.2.2.1 (by decide)) (by decide)) (by rw [List.length_append, List.length_map (f := V.int) (as := bigs _ _), bigs_len]; show _ + 2 + 2 ≤ _; omega) fun H3 e3 => ?_
    have x3 := Ex.mut (o := .lst (((([N.house] ++ (bigs N.number 3 ++ [(N.near.length : Int)])) ++ (N.near.take i).flatMap nearB).map V.int ++ [.int t.1, .int t.2.1]) ++ (bigs t.2.2.1 2).map V.int)) (x2.trans e3) hl
    refine s_extL (zs := (bigs t.2.2.2 2).map V.int) upd_same (ev_var rfl) (el_number_signs (k := 2) (ev_op (ev_var rfl) ev_c (rv_ixT (ex_t x3 htb) (at_nat (by decide) rfl))) ev_c (by omega) (Int.lt_of_le_of_lt ob.2.2.2.2.2.2.2.2 (by decide)) (by decide)) (by rw [List.length_append, List.length_append, List.length_map (f := V.int) (as := bigs _ _), List.length_map (f := V.int) (as := bigs _ _), bigs_len, bigs_len]; show _ + 2 + 2 + 2 ≤ _; omega) fun H4 e4 => ?_
    refine ⟨Ex.mut (x3.trans e4) hl, ⟨_, _, _, rfl⟩, ?_⟩
    rw [upd_same, take_snoc ht, List.flatMap_append]
    simp [nearB]
  · rintro σ' H' ⟨e, ⟨o1, o2, o3, rfl⟩, hl'⟩
    rw [xl, List.take_length] at hl'
    have sz : ((([N.house] ++ (bigs N.number 3 ++ [(N.near.length : Int)])) ++ N.near.flatMap nearB).map V.int).length ≤ 1000 := by
      rw [List.length_map, List.length_append, List.length_append, List.length_append, bigs_len, flat_len nearB 6 nearB_len]
      simp
      omega
    refine q_app hl' (ev_var rfl) (v := .int (N.names.length : Int)) (ev_is (ev_lenT (ev_var rfl) (ex_t e hb)) (by rw [List.length_map])) (by omega) fun H2 e2 => ?_
    have x2 := Ex.mut (o := .lst ((([N.house] ++ (bigs N.number 3 ++ [(N.near.length : Int)])) ++ N.near.flatMap nearB).map V.int ++ [.int (N.names.length : Int)])) (e.trans e2) hl
    refine q_forT (ev_var rfl) (ex_t x2 hb) (fun i σ' H' => Ex H H' ∧ (∃ o, σ' = [some (.ref p), some (.int N.house), some (.int N.number), some (.ref a), some (.ref b), some (.ref l), o1, o2, o3, o]) ∧ H' l = some (.lst (((([N.house] ++ (bigs N.number 3 ++ [(N.near.length : Int)])) ++ N.near.flatMap nearB).map V.int ++ [.int (N.names.length : Int)]) ++ ((N.names.take i).flatMap nameB).map V.int)))
      (fun H3 e3 => ⟨x2.trans e3, ⟨none, rfl⟩, by rw [e3 _ _ upd_same]; simp⟩) (fun i σ' H' _ q => ex_t q.1 hb) ?_ ?_
    · rintro i x σ' H3 hx ⟨e3, ⟨o, rfl⟩, hl3⟩
      rw [List.getElem?_map, Option.map_eq_some_iff] at hx
      obtain ⟨s, hx, rfl⟩ := hx
      have sok := ok.names.ok s (List.mem_of_getElem? hx)
      have nn := nameNum_lt sok
      have hil := (List.getElem?_eq_some_iff.mp hx).1
      refine s_extL (zs := (bigs (nameNum s) 3).map V.int) hl3 (ev_var rfl) (el_number_signs (k := 3) (ev_name_number (ev_var rfl) sok) ev_c nn.1 nn.2 (by decide)) (by rw [List.length_append, List.length_append, List.length_map (f := V.int) (as := bigs _ _), bigs_len, List.length_map (f := V.int) (as := List.flatMap _ _), flat_len nameB 3 nameB_len, List.length_take]; show _ + 1 + _ + 3 ≤ _; omega) fun H4 e4 => ?_
      refine ⟨Ex.mut (e3.trans e4) hl, ⟨_, rfl⟩, ?_⟩
      rw [upd_same, take_snoc hx, List.flatMap_append]
      simp [nameB]
    · rintro σ' H3 ⟨e3, ⟨o, rfl⟩, hl3⟩
      rw [List.length_map, List.take_length] at hl3
      refine s_retI (K := K) (d := .tuple (N.body.map PyData.int)) (evi_tupOf (xs := N.body.map V.int) (ev_var rfl) (.inl (sq_of ?_)) (ImAll.ints _)) fun v H4 e4 i4 => k v H4 (e3.trans e4) i4
      rw [hl3]
      unfold News.body
      simp
section
variable {P : Program} {w : World} {K : PySem.W.Frag} {mg : Str → Option Value} {base : Heap}
theorem sc_news_body : FnScope ["news", "house", "number", "near", "names", "signs", "other", "quiet", "pair", "name"] ["news"] (defScope s_news_body) := ⟨rfl, rfl, rfl, by decide +kernel, rfl, by decide +kernel, by decide +kernel⟩
theorem dr_news_body (T : Wd K mg) (c_number_signs : Cal P w K mg base 1 "number_signs" (sp_number_signs K) []) (c_name_number : Cal P w K mg base 1 "name_number" (sp_name_number K) []) {f : Addr} {cdv : Value} {A : Around} {outer : List Env} {s : Shared} {H : Hp} {E : XK} (hr : Room 1 (A.deeper (envOfC "news_body" (defScope s_news_body) s.heap.objs.size f cdv))) :
    PSs (cxOf CX0 P w K mg base ["news", "house", "number", "near", "names", "signs", "other", "quiet", "pair", "name"] "news_body" (defScope s_news_body) f cdv A outer s H E).nox (defBody s_news_body) (t_news_body K) := by
  have nd := sc_news_body.nd
  exact (pss_cons (ps_asg (pv 0) (pg_tup rfl (pgs_cons (pg_name (i := 1) nd rfl (by first | exact Or.inl rfl | exact Or.inr rfl)) (pgs_cons (pg_name (i := 2) nd rfl (by first | exact Or.inl rfl | exact Or.inr rfl)) (pgs_cons (pg_name (i := 3) nd rfl (by first | exact Or.inl rfl | exact Or.inr rfl)) (pgs_cons (pg_name (i := 4) nd rfl (by first | exact Or.inl rfl | exact Or.inr rfl)) pgs_nil))))))
    (pss_cons (ps_set (i := 5) nd rfl (by first | exact Or.inl rfl | exact Or.inr rfl) (pe_op op_catS (pe_op op_catS (pe_lst (pa_cons (pv 1) pa_nil)) (pe_c c_number_signs hr (by decide) rfl (pa_cons (pv 2) (pa_cons pe_int pa_nil)))) (pe_lst (pa_cons (pe_callB call_len_seq (by rfl) (T.free 97) (by decide +kernel) (pa_cons (pv 3) pa_nil)) pa_nil))))
    (pss_cons (ps_for PassesOwn.never rfl (pi_tup (pv 3)) (pg_tup rfl (pgs_cons (pg_name (i := 6) nd rfl (by first | exact Or.inl rfl | exact Or.inr rfl)) (pgs_cons (pg_name (i := 7) nd rfl (by first | exact Or.inl rfl | exact Or.inr rfl)) (pgs_cons (pg_name (i := 8) nd rfl (by first | exact Or.inl rfl | exact Or.inr rfl)) pgs_nil))))
    (pss_cons (ps_expr (pe_bm PySem.F.plainAttrs_list PySem.F.slot_list_extend PySem.F.type_list_extend mt_extendS (pv 5) (pa_cons (pe_lst (pa_cons (pv 6) (pa_cons (pv 7) pa_nil))) pa_nil)))
    (pss_cons (ps_expr (pe_bm PySem.F.plainAttrs_list PySem.F.slot_list_extend PySem.F.type_list_extend mt_extendS (pv 5) (pa_cons (pe_c c_number_signs hr (by decide) rfl (pa_cons (pe_ix ix_tup (pv 8) pe_int (fun _ _ => rfl)) (pa_cons pe_int pa_nil))) pa_nil)))
    (pss_one (ps_expr (pe_bm PySem.F.plainAttrs_list PySem.F.slot_list_extend PySem.F.type_list_extend mt_extendS (pv 5) (pa_cons (pe_c c_number_signs hr (by decide) rfl (pa_cons (pe_ix ix_tup (pv 8) pe_int (fun _ _ => rfl)) (pa_cons pe_int pa_nil))) pa_nil)))))))
    (pss_cons (ps_expr (pe_bm PySem.F.plainAttrs_list PySem.F.slot_list_append PySem.F.type_list_append mt_append (pv 5) (pa_cons (pe_callB call_len_seq (by rfl) (T.free 97) (by decide +kernel) (pa_cons (pv 4) pa_nil)) pa_nil)))
    (pss_cons (ps_for PassesOwn.never rfl (pi_tup (pv 4)) (pg_name (i := 9) nd rfl (by first | exact Or.inl rfl | exact Or.inr rfl))
    (pss_one (ps_expr (pe_bm PySem.F.plainAttrs_list PySem.F.slot_list_extend PySem.F.type_list_extend mt_extendS (pv 5) (pa_cons (pe_c c_number_signs hr (by decide) rfl (pa_cons (pe_c c_name_number hr (by decide) rfl (pa_cons (pv 9) pa_nil)) (pa_cons pe_int pa_nil))) pa_nil)))))
    (pss_one (ps_ret (pe_callTy call_tuple_of (by rfl) (T.free 106) (by decide +kernel) (pa_cons (pv 5) pa_nil)))))))))
theorem ok_news_body (T : Wd K mg) (c_number_signs : Cal P w K mg base 1 "number_signs" (sp_number_signs K) []) (c_name_number : Cal P w K mg base 1 "name_number" (sp_name_number K) []) {f : Addr} {fd : FuncData} (F : FunD K ds_news_body.name ds_news_body.qual ds_news_body.params ds_news_body.body ds_news_body.scope [] [] f fd) : FnOk P w K mg base CX0 2 f fd ["news"] (sp_news_body K) := by
  refine FunD.ok F sc_news_body (fun vs H Q E h => ?_) (fun cdv A outer s H vs Q E hr h => ⟨t_news_body K, PSs.nox (dr_news_body T c_number_signs c_name_number hr), pure_news_body T vs H Q E h⟩)
  obtain ⟨_, _, e, _⟩ := h
  rw [e]
  all_goals rfl
end
theorem evi_news_body {σ : L2.St} {H : Hp} {te : TE} {v : V} {N : News} (h : Ev te σ H v) (hi : Im K H v N.data) (ok : N.Ok) : EvI K (tCall (sp_news_body K) [] E0 (tCons te tNil)) σ H (.tuple (N.body.map PyData.int)) :=
  evi_call (ea_cons h ea_nil) fun _ e _ q _ => ⟨v, N, rfl, Im.ex e hi, ok, q⟩
theorem body_sig {N : News} (ok : N.Ok) : Sigs N.body := by
  have h0 := ok.h0
  have nl := ok.near.len
  have ml := ok.names.len
  intro n hn
  unfold News.body at hn
  simp only [List.mem_append, List.mem_singleton, List.mem_flatMap] at hn
  rcases hn with rfl | hn | rfl | ⟨t, ht, hn⟩ | rfl | ⟨s, hs, hn⟩
  · omega
  · exact bigs_sig _ _ n hn
  · omega
  · have ob := ok.near.ok t ht
    unfold nearB at hn
    simp only [List.mem_append, List.mem_cons, List.not_mem_nil, or_false] at hn
    rcases hn with (rfl | rfl) | hn | hn
    · omega
    · omega
    · exact bigs_sig _ _ n hn
    · exact bigs_sig _ _ n hn
  · omega
  · exact bigs_sig _ _ n hn
theorem body_len {N : News} (ok : N.Ok) : N.body.length ≤ 56 := by
  have nl := ok.near.len
  have ml := ok.names.len
  unfold News.body
  rw [List.length_append, List.length_append, List.length_append, List.length_append, List.length_append, bigs_len, flat_len nearB 6 nearB_len, flat_len nameB 3 nameB_len]
  simp
  omega
end

end K85
end
section
set_option maxHeartbeats 400000
namespace K85
open PySem PySem.Spec PyProof.Rows
open L2 hiding CX0 E0 pass0
open C8 Evl
/-! ### tactics -/
local macro_rules | `(tactic| walk_at "side") => `(tactic| first | omega | assumption | rfl | decide)
local macro_rules | `(tactic| walk_at "at") => `(tactic| first | (refine at_int ?_ ?_ <;> first | omega | (simp; omega)) | assumption)
local macro_rules | `(tactic| walk_at "rv") => `(tactic| first
  | with_reducible exact rv_I0
  | ((with_reducible apply rv_eq); rfl)
  | ((with_reducible apply rv_ne); rfl)
  | ((with_reducible apply rv_mod); first | omega | decide)
  | ((with_reducible apply rv_mul); omega)
  | ((with_reducible apply rv_div); omega)
  | ((with_reducible apply rv_ixL); · assumption
     · walk_at "at")
  | ((with_reducible apply rv_ixT); · assumption
     · walk_at "at"))
local macro_rules | `(tactic| walk_at "ev") => `(tactic| first
  | ((with_reducible apply ev_var); rfl)
  | with_reducible exact ev_c
  | ((with_reducible apply ev_isN); walk_at "ev")
  | ((with_reducible apply ev_notN); walk_at "ev")
  | ((with_reducible apply ev_op); · walk_at "ev"
     · walk_at "ev"
     · walk_at "rv")
  | ((with_reducible apply ev_un); · walk_at "ev"
     · with_reducible exact ru_neg)
  | ((with_reducible apply ev_chain); · walk_at "ev"
     · walk_at "ev"
     · walk_at "rv"
     · intro _; walk_at "ev"
     · intro _; walk_at "rv")
  | ((with_reducible apply ev_len); · walk_at "ev"
     · assumption)
  | ((with_reducible apply ev_lenT); · walk_at "ev"
     · assumption)
  | ((with_reducible apply ev_andV); · walk_at "ev"
     · intro _; walk_at "ev")
  | with_reducible assumption)
local macro_rules | `(tactic| walk_at "evt") => `(tactic| first
  | ((with_reducible apply et_or); · walk_at "evt"
     · intro _; walk_at "evt")
  | ((with_reducible apply et_and); · walk_at "evt"
     · intro _; walk_at "evt")
  | ((with_reducible apply et_not); walk_at "evt")
  | ((with_reducible apply et_test); walk_at "ev")
  | ((with_reducible apply et_B); walk_at "ev")
  | with_reducible assumption)
local macro_rules | `(tactic| walk_at "bool") => `(tactic| first | rfl | (simp; done) | (simp; omega) | (simp; intros; omega) | grind)
section
variable {K : PySem.W.Frag} {mg : Str → Option Value}
theorem Bt.fresh {S : List Addr} {H H' : Hp} (a : Bt S H H') (h : ∀ p ∈ S, H p = none) : Ex H H' := fun x o hx => a x o (fun z => by rw [h x z] at hx; cases hx) hx
/-! ### a row of signs, read on -/
structure RowAt (K : PySem.W.Frag) (H : Hp) (p dx q : Addr) (ns rest : List Int) : Prop where
  at_ : ∃ i : Nat, H p = some (.ins (He.ga K "SignRow") dx [("sign_row", .ref q), ("next_spot", .int (i : Int))]) ∧ ns.drop i = rest ∧ i ≤ ns.length
  row : H q = some (.lst (ns.map V.int))
theorem RowAt.ne {H : Hp} {p dx q : Addr} {ns rest : List Int} (h : RowAt K H p dx q ns rest) : p ≠ q := by
  obtain ⟨i, hp, _⟩ := h.at_
  exact ne_of hp h.row (by intro z; cases z)
theorem RowAt.ex {H H' : Hp} {p dx q : Addr} {ns rest : List Int} (h : RowAt K H p dx q ns rest) (e : Ex H H') : RowAt K H' p dx q ns rest := by
  obtain ⟨i, hp, h1, h2⟩ := h.at_
  exact ⟨⟨i, e _ _ hp, h1, h2⟩, e _ _ h.row⟩
theorem RowAt.upd {H : Hp} {p dx q l : Addr} {o : HO} {ns rest : List Int} (h : RowAt K H p dx q ns rest) (np : p ≠ l) (nq : q ≠ l) : RowAt K (upd H l o) p dx q ns rest := by
  obtain ⟨i, hp, h1, h2⟩ := h.at_
  exact ⟨⟨i, by rw [upd_ne np]; exact hp, h1, h2⟩, by rw [upd_ne nq]; exact h.row⟩
theorem RowAt.ins {H : Hp} {p dx q : Addr} {ns rest : List Int} (h : RowAt K H p dx q ns rest) : ∃ fs, H p = some (.ins (He.ga K "SignRow") dx fs) ∧ ∀ m : Str, m ≠ "sign_row" → m ≠ "next_spot" → fs.lookup m = none := by
  obtain ⟨i, hp, h1, h2⟩ := h.at_
  exact ⟨_, hp, fun m n1 n2 => by rw [List.lookup_cons, beq_eq_false_iff_ne.mpr n1, List.lookup_cons, beq_eq_false_iff_ne.mpr n2]; rfl⟩
theorem RowAt.newL {H : Hp} {p dx q l : Addr} {ns rest : List Int} (h : RowAt K H p dx q ns rest) (hl : H l = none) : p ≠ l ∧ q ≠ l := by
  obtain ⟨i, hp, h1, h2⟩ := h.at_
  exact ⟨ne_of_none hp hl, ne_of_none h.row hl⟩
theorem RowAt.tx {H H' : Hp} {p dx q : Addr} {ns rest : List Int} (h : RowAt K H p dx q ns rest) (b : Bt [p] H H') : Tx K H H' := by
  obtain ⟨i, hp, h1, h2⟩ := h.at_
  exact Bt.tx b fun x hx => by
    rw [List.mem_singleton.mp hx]
    exact ⟨_, hp, fun xs z => (by cases z), fun b u z => (by cases z)⟩
def sp_SignRow_init (K : PySem.W.Frag) : Sp := fun vs H Q _ => ∃ (p dx a : Addr) (ns : List Int), vs = [.ref p, .ref a] ∧ H p = some (.ins (He.ga K "SignRow") dx []) ∧ (SqL K H a (ns.map V.int) ∨ SqT K H a (ns.map V.int)) ∧ ∀ q H', Bt [p] H H' → RowAt K H' p dx q ns ns → Q .non H'
/-- SignRow.__init__ -/
def t_SignRow_init (K : PySem.W.Frag) : TS :=
    (tSeq (sFld K (tVar 0) (tCB (Evl.rListS K) (tCons (tVar 1) tNil)) "sign_row")
    (sFld K (tVar 0) (tC (.int 0)) "next_spot"))
theorem pure_SignRow_init (T : Wd K mg) (vs : List V) (H : Hp) (Q : VK) (E : XK) (h : sp_SignRow_init K vs H Q E) : t_SignRow_init K { nx := fun _ H' => Q .non H', rt := Q } (start ["self", "signs"] vs) H := by
  obtain ⟨p, dx, a, ns, rfl, hp, ha, k⟩ := h
  refine q_fldL (xs := ns.map V.int) (fun H1 e1 Q1 q1 => ⟨_, rfl, a, _, rfl, ha.imp (ex_l e1) (ex_t e1), fun l hl => q1 l _ hl (Ex.new hl) upd_same⟩) (fun _ _ _ => ev_var rfl) hp (cl_SignRow T) (na_SignRow_sign_row T) (Nat.le_of_ble_eq_true rfl) fun l H1 hl e1 h1 => ?_
  have npl : p ≠ l := ne_of_none hp hl
  refine s_fld ev_c (ev_var rfl) upd_same (cl_SignRow T) (na_SignRow_next_spot T) (Nat.le_of_ble_eq_true rfl) fun H2 e2 => ?_
  refine k l _ (Bt.upd (Bt.trans (Bt.upd (Bt.ex e1) (.inl (by simp))) (Bt.ex e2)) (.inl (by simp))) ⟨⟨0, upd_same, rfl, Nat.zero_le _⟩, ?_⟩
  rw [upd_ne npl.symm]
  refine e2 _ _ ?_
  rw [upd_ne npl.symm]
  exact h1
section
variable {P : Program} {w : World} {K : PySem.W.Frag} {mg : Str → Option Value} {base : Heap}
theorem sc_SignRow_init : FnScope ["self", "signs"] ["self", "signs"] (defScope s_SignRow_init) := ⟨rfl, rfl, rfl, by decide +kernel, rfl, by decide +kernel, by decide +kernel⟩
theorem dr_SignRow_init (T : Wd K mg) {f : Addr} {cdv : Value} {A : Around} {outer : List Env} {s : Shared} {H : Hp} {E : XK} (hr : Room 0 (A.deeper (envOfC "SignRow.__init__" (defScope s_SignRow_init) s.heap.objs.size f cdv))) :
    PSs (cxOf CX0 P w K mg base ["self", "signs"] "SignRow.__init__" (defScope s_SignRow_init) f cdv A outer s H E).nox (defBody s_SignRow_init) (t_SignRow_init K) := by
  have nd := sc_SignRow_init.nd
  exact (pss_cons (ps_fld (pv 0) (pe_callTy call_list_of (by rfl) (T.free 98) (by decide +kernel) (pa_cons (pv 1) pa_nil)) rfl)
    (pss_one (ps_fld (pv 0) pe_int rfl)))
theorem ok_SignRow_init (T : Wd K mg) {f : Addr} {fd : FuncData} (F : FunD K ds_SignRow_init.name ds_SignRow_init.qual ds_SignRow_init.params ds_SignRow_init.body ds_SignRow_init.scope [] [] f fd) : FnOk P w K mg base CX0 1 f fd ["self", "signs"] (sp_SignRow_init K) := by
  refine FunD.ok F sc_SignRow_init (fun vs H Q E h => ?_) (fun cdv A outer s H vs Q E hr h => ⟨t_SignRow_init K, PSs.nox (dr_SignRow_init T  hr), pure_SignRow_init T vs H Q E h⟩)
  obtain ⟨_, _, _, _, e, _⟩ := h
  rw [e]
  all_goals rfl
end
def sp_SignRow_number_here (K : PySem.W.Frag) : Sp := fun vs H Q _ => ∃ (p dx q : Addr) (ns a rest : List Int), vs = [.ref p, .int (a.length : Int)] ∧ RowAt K H p dx q ns (a ++ rest) ∧ Sigs a ∧ ∀ H', Bt [p] H H' → RowAt K H' p dx q ns rest → Q (.int (numOf a)) H'
/-- SignRow.number_here -/
def t_SignRow_number_here (K : PySem.W.Frag) : TS :=
    (tSeq (tAsg (tSl (rSlL K) (tFld K (tVar 0) "sign_row") (tPart (tFld K (tVar 0) "next_spot")) (tPart (tOp rAddI (tFld K (tVar 0) "next_spot") (tVar 1)))) (gName 2))
    (tSeq (sFld K (tVar 0) (tOp rAddI (tFld K (tVar 0) "next_spot") (tVar 1)) "next_spot")
    (tSeq (tIfS (tTest (tOp rLtI (tCB (Evl.rLenS K) (tCons (tVar 2) tNil)) (tVar 1))) tNever tNext)
    (tRet (tCall (sp_signs_number K) [] C8.E0 (tCons (tVar 2) tNil))))))
theorem pure_SignRow_number_here (T : Wd K mg) (vs : List V) (H : Hp) (Q : VK) (E : XK) (h : sp_SignRow_number_here K vs H Q E) : t_SignRow_number_here K { nx := fun _ H' => Q .non H', rt := Q } (start ["self", "many", "found"] vs) H := by
  obtain ⟨p, dx, q, ns, a, rest, rfl, ⟨⟨i, hp, hd, hi⟩, hq⟩, sg, k⟩ := h
  have hlen : i + a.length + rest.length = ns.length := by
    have := congrArg List.length hd
    rw [List.length_drop, List.length_append] at this
    omega
  have ns1 : ∀ (H9 : Hp) (σ : L2.St) (fs : List (Str × V)) (j : Nat), H9 p = some (.ins (He.ga K "SignRow") dx fs) → fs.lookup ("next_spot" : Str) = some (V.int (j : Int)) → σ[0]? = some (some (.ref p)) → Ev (tFld K (tVar 0) "next_spot") σ H9 (.int (j : Int)) := fun H9 σ fs j h1 h2 h3 => ev_fld (ev_var h3) h1 (cl_SignRow T) (na_SignRow_next_spot T) h2
  refine q_asgL (xs := a.map V.int) (el_is (el_sl (lo := some (i : Int)) (hi := some ((i + a.length : Nat) : Int)) (xs := ns.map V.int) (a := q) ?_ (eo_some (ns1 H _ _ i hp rfl rfl)) (eo_some (ev_is (ev_op (ns1 H _ _ i hp rfl rfl) (ev_var rfl) rv_I0) (congrArg V.int (by omega)))) (sq_of hq)) ?_) fun l H1 hl e1 h1 => ?_
  · exact ev_fld (ev_var rfl) hp (cl_SignRow T) (na_SignRow_sign_row T) rfl
  · rw [cut_nat (by rw [List.length_map]; omega), ← List.map_drop, ← List.map_take, hd, List.take_left']
    rfl
  refine q_fld (v := .int ((i + a.length : Nat) : Int)) (ev_is (ev_op (ns1 H1 _ _ i (e1 _ _ hp) rfl rfl) (ev_var rfl) rv_I0) (congrArg V.int (by omega))) (ev_var rfl) (e1 _ _ hp) (cl_SignRow T) (na_SignRow_next_spot T) (Nat.le_of_ble_eq_true rfl) fun H2 e2 => ?_
  have npl : p ≠ l := ne_of_none hp hl
  have npq : p ≠ q := ne_of hp hq (by intro z; cases z)
  have hl2 : upd H2 p (.ins (He.ga K "SignRow") dx (putF "next_spot" (.int ((i + a.length : Nat) : Int)) [("sign_row", .ref q), ("next_spot", .int (i : Int))])) l = some (.lst (a.map V.int)) := by rw [upd_ne npl.symm]; exact e2 _ _ h1
  have r2 : RowAt K (upd H2 p (.ins (He.ga K "SignRow") dx (putF "next_spot" (.int ((i + a.length : Nat) : Int)) [("sign_row", .ref q), ("next_spot", .int (i : Int))]))) p dx q ns rest := by
    refine ⟨⟨i + a.length, upd_same, ?_, by omega⟩, ?_⟩
    · rw [← List.drop_drop, hd, List.drop_left]
    · rw [upd_ne npq.symm]
      exact e2 _ _ (e1 _ _ hq)
  have b2 : Bt [p] H (upd H2 p (.ins (He.ga K "SignRow") dx (putF "next_spot" (.int ((i + a.length : Nat) : Int)) [("sign_row", .ref q), ("next_spot", .int (i : Int))]))) := Bt.upd (Bt.ex (e1.trans e2)) (.inl (by simp))
  generalize upd H2 p (.ins (He.ga K "SignRow") dx (putF "next_spot" (.int ((i + a.length : Nat) : Int)) [("sign_row", .ref q), ("next_spot", .int (i : Int))])) = H3 at *
  refine q_when (b := false) (et_is (et_test (ev_op (ev_len (ev_var rfl) (sq_of hl2)) (ev_var rfl) rv_I0)) (by simp)) (fun h => nomatch h) fun _ H4 e4 => ?_
  refine s_ret (ev_signs_number (ns := a) (ev_var rfl) (sq_of (e4 _ _ hl2)) sg) fun H5 e5 => ?_
  exact k H5 (b2.trans (Bt.ex (e4.trans e5))) (r2.ex (e4.trans e5))
section
variable {P : Program} {w : World} {K : PySem.W.Frag} {mg : Str → Option Value} {base : Heap}
theorem sc_SignRow_number_here : FnScope ["self", "many", "found"] ["self", "many"] (defScope s_SignRow_number_here) := ⟨rfl, rfl, rfl, by decide +kernel, rfl, by decide +kernel, by decide +kernel⟩
theorem dr_SignRow_number_here (T : Wd K mg) (c_signs_number : Cal P w K mg base 2 "signs_number" (sp_signs_number K) []) {f : Addr} {cdv : Value} {A : Around} {outer : List Env} {s : Shared} {H : Hp} {E : XK} (hr : Room 2 (A.deeper (envOfC "SignRow.number_here" (defScope s_SignRow_number_here) s.heap.objs.size f cdv))) :
    PSs (cxOf CX0 P w K mg base ["self", "many", "found"] "SignRow.number_here" (defScope s_SignRow_number_here) f cdv A outer s H E).nox (defBody s_SignRow_number_here) (t_SignRow_number_here K) := by
  have nd := sc_SignRow_number_here.nd
  exact (pss_cons (ps_set (i := 2) nd rfl (by first | exact Or.inl rfl | exact Or.inr rfl) (pe_slice sl_list (pe_fld (pv 0) rfl) (po_some (pe_fld (pv 0) rfl)) (po_some (pe_op op_add (pe_fld (pv 0) rfl) (pv 1)))))
    (pss_cons (ps_fld (pv 0) (pe_op op_add (pe_fld (pv 0) rfl) (pv 1)) rfl)
    (pss_cons (ps_if (pt_cmpR op_lt (pe_callB call_len_seq (by rfl) (T.free 97) (by decide +kernel) (pa_cons (pv 2) pa_nil)) (pv 1) (nomark _)) pss_never pss_nil)
    (pss_one (ps_ret (pe_c c_signs_number hr (by decide) rfl (pa_cons (pv 2) pa_nil)))))))
theorem ok_SignRow_number_here (T : Wd K mg) (c_signs_number : Cal P w K mg base 2 "signs_number" (sp_signs_number K) []) {f : Addr} {fd : FuncData} (F : FunD K ds_SignRow_number_here.name ds_SignRow_number_here.qual ds_SignRow_number_here.params ds_SignRow_number_here.body ds_SignRow_number_here.scope [] [] f fd) : FnOk P w K mg base CX0 3 f fd ["self", "many"] (sp_SignRow_number_here K) := by
  refine FunD.ok F sc_SignRow_number_here (fun vs H Q E h => ?_) (fun cdv A outer s H vs Q E hr h => ⟨t_SignRow_number_here K, PSs.nox (dr_SignRow_number_here T c_signs_number hr), pure_SignRow_number_here T vs H Q E h⟩)
  obtain ⟨_, _, _, _, _, _, e, _⟩ := h
  rw [e]
  all_goals rfl
end
def sp_SignRow_is_through (K : PySem.W.Frag) : Sp := fun vs H Q _ => ∃ (p dx q : Addr) (ns : List Int), vs = [.ref p] ∧ RowAt K H p dx q ns [] ∧ RetV (.bl true) H Q
/-- SignRow.is_through -/
def t_SignRow_is_through (K : PySem.W.Frag) : TS :=
    (tRet (tOp rEq (tFld K (tVar 0) "next_spot") (tCB (Evl.rLenS K) (tCons (tFld K (tVar 0) "sign_row") tNil))))
theorem pure_SignRow_is_through (T : Wd K mg) (vs : List V) (H : Hp) (Q : VK) (E : XK) (h : sp_SignRow_is_through K vs H Q E) : t_SignRow_is_through K { nx := fun _ H' => Q .non H', rt := Q } (start ["self"] vs) H := by
  obtain ⟨p, dx, q, ns, rfl, ⟨⟨i, hp, hd, hi⟩, hq⟩, k⟩ := h
  have hlen : i = ns.length := by
    have := congrArg List.length hd
    rw [List.length_drop, List.length_nil] at this
    omega
  refine s_ret (v := .bl true) (ev_is (ev_op (x := .int (i : Int)) (y := .int (i : Int)) (ev_fld (ev_var rfl) hp (cl_SignRow T) (na_SignRow_next_spot T) rfl) (ev_is (ev_len (ev_fld (ev_var rfl) hp (cl_SignRow T) (na_SignRow_sign_row T) rfl) (sq_of hq)) (by rw [List.length_map, hlen])) (rv_eq rfl)) (by simp)) fun H1 e1 => ?_
  exact k H1 e1
section
variable {P : Program} {w : World} {K : PySem.W.Frag} {mg : Str → Option Value} {base : Heap}
theorem sc_SignRow_is_through : FnScope ["self"] ["self"] (defScope s_SignRow_is_through) := ⟨rfl, rfl, rfl, by decide +kernel, rfl, by decide +kernel, by decide +kernel⟩
theorem dr_SignRow_is_through (T : Wd K mg) {f : Addr} {cdv : Value} {A : Around} {outer : List Env} {s : Shared} {H : Hp} {E : XK} (hr : Room 0 (A.deeper (envOfC "SignRow.is_through" (defScope s_SignRow_is_through) s.heap.objs.size f cdv))) :
    PSs (cxOf CX0 P w K mg base ["self"] "SignRow.is_through" (defScope s_SignRow_is_through) f cdv A outer s H E).nox (defBody s_SignRow_is_through) (t_SignRow_is_through K) := by
  have nd := sc_SignRow_is_through.nd
  exact (pss_one (ps_ret (pe_cmpR op_eq (pe_fld (pv 0) rfl) (pe_callB call_len_seq (by rfl) (T.free 97) (by decide +kernel) (pa_cons (pe_fld (pv 0) rfl) pa_nil)) (nomark _))))
theorem ok_SignRow_is_through (T : Wd K mg) {f : Addr} {fd : FuncData} (F : FunD K ds_SignRow_is_through.name ds_SignRow_is_through.qual ds_SignRow_is_through.params ds_SignRow_is_through.body ds_SignRow_is_through.scope [] [] f fd) : FnOk P w K mg base CX0 1 f fd ["self"] (sp_SignRow_is_through K) := by
  refine FunD.ok F sc_SignRow_is_through (fun vs H Q E h => ?_) (fun cdv A outer s H vs Q E hr h => ⟨t_SignRow_is_through K, PSs.nox (dr_SignRow_is_through T  hr), pure_SignRow_is_through T vs H Q E h⟩)
  obtain ⟨_, _, _, _, e, _⟩ := h
  rw [e]
  all_goals rfl
end
section
variable {σ : L2.St} {H : Hp} {D : Ends} {tz : TS} {p dx q : Addr} {ns a rest : List Int} {m : Int} {i j : Nat} {Q : VK}
theorem nh (hσ : σ[i]? = some (some (.ref p))) (r : RowAt K H p dx q ns (a ++ rest)) (sg : Sigs a) (hm : m = (a.length : Int)) (k : ∀ H', Bt [p] H H' → RowAt K H' p dx q ns rest → Q (.int (numOf a)) H') : tMeth (He.ga K "SignRow") "number_here" (sp_SignRow_number_here K) [] E0 (tVar i) (tCons (tC (.int m)) tNil) σ H Q := by
  obtain ⟨fs, hp, hf⟩ := r.ins
  exact ⟨.ref p, hσ, p, dx, fs, rfl, hp, hf _ (by decide) (by decide), p, dx, q, ns, a, rest, by rw [hm]; rfl, r, sg, k⟩
theorem q_nh {n : Int} (hσ : σ[i]? = some (some (.ref p))) (r : RowAt K H p dx q ns (a ++ rest)) (sg : Sigs a) (hm : m = (a.length : Int)) (hn : numOf a = n) (k : ∀ H', Bt [p] H H' → RowAt K H' p dx q ns rest → tz D (σ.set j (some (.int n))) H') : tSeq (tAsg (tMeth (He.ga K "SignRow") "number_here" (sp_SignRow_number_here K) [] E0 (tVar i) (tCons (tC (.int m)) tNil)) (gName j)) tz D σ H :=
  nh hσ r sg hm fun H' b r' => by rw [hn]; exact k H' b r'
theorem q_forNh {tu : TS} {n : Nat} (hσ : σ[i]? = some (some (.ref p))) (r : RowAt K H p dx q ns (a ++ rest)) (sg : Sigs a) (hm : m = (a.length : Int)) (hn : numOf a = (n : Int)) (hb : n ≤ 100000) (Pv : Nat → L2.St → Hp → Prop) (h0 : ∀ H1, Bt [p] H H1 → RowAt K H1 p dx q ns rest → Pv 0 σ H1)
    (hs : ∀ (u : Nat) σ' H', u < n → Pv u σ' H' → tu { D with nx := Pv (u + 1), ct := Pv (u + 1), bk := tz D } (σ'.set j (some (.int (u : Int)))) H') (hd : ∀ σ' H', Pv n σ' H' → tz D σ' H') :
    tSeq (tFor (iRng1 (tCons (tMeth (He.ga K "SignRow") "number_here" (sp_SignRow_number_here K) [] E0 (tVar i) (tCons (tC (.int m)) tNil)) tNil)) (gName j) tu) tz D σ H :=
  nh hσ r sg hm fun H' b r' => ⟨n, by rw [hn], by omega, by omega, for_range (D := { D with nx := tz D }) (lo := 0) Pv (h0 H' b r') (fun u σ' H' hu pv => by
    have e0 : (0 : Int) + (u : Int) = (u : Int) := Int.zero_add _
    rw [e0]
    exact hs u σ' H' hu pv) hd⟩
end
theorem sigs1 {z : Int} (h : 0 ≤ z ∧ z ≤ 96) : Sigs [z] := fun n hn => by rw [List.mem_singleton.mp hn]; omega
theorem numOf1 (z : Int) : numOf [z] = z := by unfold numOf; simp
def sp_news_read (K : PySem.W.Frag) : Sp := fun vs H Q _ => ∃ (p dx q : Addr) (ns : List Int) (N : News), vs = [.ref p] ∧ RowAt K H p dx q ns N.body ∧ N.Ok ∧ ∀ v H', Bt [p] H H' → RowAt K H' p dx q ns [] → Im K H' v N.data → Q v H'
/-- news_read -/
def t_news_read (K : PySem.W.Frag) : TS :=
    (tSeq (tAsg (tMeth (He.ga K "SignRow") "number_here" (sp_SignRow_number_here K) [] C8.E0 (tVar 0) (tCons (tC (.int 1)) tNil)) (gName 1))
    (tSeq (tAsg (tMeth (He.ga K "SignRow") "number_here" (sp_SignRow_number_here K) [] C8.E0 (tVar 0) (tCons (tC (.int 3)) tNil)) (gName 2))
    (tSeq (tAsg (tLst tNil) (gName 3))
    (tSeq (tFor (iRng1 (tCons (tMeth (He.ga K "SignRow") "number_here" (sp_SignRow_number_here K) [] C8.E0 (tVar 0) (tCons (tC (.int 1)) tNil)) tNil)) (gName 4)
    (tSeq (tAsg (tMeth (He.ga K "SignRow") "number_here" (sp_SignRow_number_here K) [] C8.E0 (tVar 0) (tCons (tC (.int 1)) tNil)) (gName 5))
    (tSeq (tAsg (tMeth (He.ga K "SignRow") "number_here" (sp_SignRow_number_here K) [] C8.E0 (tVar 0) (tCons (tC (.int 1)) tNil)) (gName 6))
    (tSeq (tAsg (tMeth (He.ga K "SignRow") "number_here" (sp_SignRow_number_here K) [] C8.E0 (tVar 0) (tCons (tC (.int 2)) tNil)) (gName 7))
    (tDrop (tBM K "list" rAppend (tVar 3) (tCons (tTup (tCons (tVar 5) (tCons (tVar 6) (tCons (tTup (tCons (tVar 7) (tCons (tMeth (He.ga K "SignRow") "number_here" (sp_SignRow_number_here K) [] C8.E0 (tVar 0) (tCons (tC (.int 2)) tNil)) tNil))) tNil)))) tNil)))))))
    (tSeq (tAsg (tLst tNil) (gName 8))
    (tSeq (tFor (iRng1 (tCons (tMeth (He.ga K "SignRow") "number_here" (sp_SignRow_number_here K) [] C8.E0 (tVar 0) (tCons (tC (.int 1)) tNil)) tNil)) (gName 4)
    (tDrop (tBM K "list" rAppend (tVar 8) (tCons (tCall (sp_name_of K) [] C8.E0 (tCons (tMeth (He.ga K "SignRow") "number_here" (sp_SignRow_number_here K) [] C8.E0 (tVar 0) (tCons (tC (.int 3)) tNil)) tNil)) tNil))))
    (tRet (tCall (sp_made_news K) [] C8.E0 (tCons (tVar 1) (tCons (tVar 2) (tCons (tVar 3) (tCons (tVar 8) tNil))))))))))))
theorem pure_news_read (T : Wd K mg) (vs : List V) (H : Hp) (Q : VK) (E : XK) (h : sp_news_read K vs H Q E) : t_news_read K { nx := fun _ H' => Q .non H', rt := Q } (start ["row", "house", "number", "near", "k", "other", "quiet", "one", "names"] vs) H := by
  obtain ⟨p, dx, q, ns, N, rfl, r, ok, k⟩ := h
  have h0 := ok.h0
  have n0 := ok.n0
  have nl := ok.near.len
  have ml := ok.names.len
  refine q_nh (n := N.house) rfl r (sigs1 (by omega)) rfl (numOf1 _) fun H1 b1 r1 => ?_
  refine q_nh (n := N.number) rfl r1 (bigs_sig _ _) (by rw [bigs_len]; rfl) (numOf_bigs _ _ n0.1 (Int.lt_of_le_of_lt n0.2 (by decide))) fun H2 b2 r2 => ?_
  refine q_asgL (xs := []) (el_lst ea_nil (Nat.zero_le _)) fun l H3 hl e3 h3 => ?_
  have bl3 := (b1.trans b2).trans (Bt.ex (S := [p]) e3)
  have hl0 : H l = none := by
    cases hx : H l with
    | none => rfl
    | some o =>
      by_cases hp : l = p
      · subst hp
        obtain ⟨_, hp, _⟩ := r2.ins
        rw [hl] at hp
        cases hp
      · have := (b1.trans b2) l o (by simpa using hp) hx
        rw [hl] at this
        cases this
  obtain ⟨npl, nql⟩ := r2.newL hl
  have r3 := r2.ex e3
  refine q_forNh (n := N.near.length) rfl r3 (sigs1 (by omega)) rfl (numOf1 _) (by omega) (fun u σ' H' => Bt [p] H H' ∧ RowAt K H' p dx q ns ((N.near.drop u).flatMap nearB ++ ([(N.names.length : Int)] ++ N.names.flatMap nameB)) ∧ (∃ o1 o2 o3 o4, σ' = [some (.ref p), some (.int N.house), some (.int N.number), some (.ref l), o1, o2, o3, o4, none]) ∧ ∃ xs, H' l = some (.lst xs) ∧ ImAll K H' xs ((N.near.take u).map nearD))
    (fun H4 b4 r4 => ⟨bl3.trans b4, r4, ⟨none, none, none, none, rfl⟩, [], b4.at h3 (by simpa using npl.symm), .nil⟩) ?_ ?_
  · rintro u σ' H' hu ⟨b, rr, ⟨o1, o2, o3, o4, rfl⟩, xs, hx, ix⟩
    have ht := List.getElem?_eq_getElem hu
    generalize N.near[u] = t at ht
    have ob := ok.near.ok t (List.mem_of_getElem? ht)
    have hxl : xs.length ≤ 5 := by rw [ix.length, List.length_map, List.length_take]; omega
    have hdu : N.near.drop u = t :: N.near.drop (u + 1) := by
      rw [List.drop_eq_getElem_cons hu]
      congr 1
      exact Option.some.inj ((List.getElem?_eq_getElem hu).symm.trans ht)
    rw [hdu, List.flatMap_cons] at rr
    have rr : RowAt K H' p dx q ns ([t.1] ++ ([t.2.1] ++ (bigs t.2.2.1 2 ++ (bigs t.2.2.2 2 ++ ((N.near.drop (u + 1)).flatMap nearB ++ ([(N.names.length : Int)] ++ N.names.flatMap nameB)))))) := by
      rw [List.append_assoc] at rr
      have hb : ∀ X : List Int, nearB t ++ X = [t.1] ++ ([t.2.1] ++ (bigs t.2.2.1 2 ++ (bigs t.2.2.2 2 ++ X))) := fun X => by unfold nearB; simp
      rw [hb] at rr
      exact rr
    refine q_nh (n := t.1) rfl rr (sigs1 (by omega)) rfl (numOf1 _) fun H5 b5 r5 => ?_
    refine q_nh (n := t.2.1) rfl r5 (sigs1 (by omega)) rfl (numOf1 _) fun H6 b6 r6 => ?_
    refine q_nh (n := t.2.2.1) rfl r6 (bigs_sig _ _) (by rw [bigs_len]; rfl) (numOf_bigs _ _ (by omega) (Int.lt_of_le_of_lt ob.2.2.2.2.2.2.1 (by decide))) fun H7 b7 r7 => ?_
    have b57 := (b5.trans b6).trans b7
    have hx7 := b57.at hx (by simpa using npl.symm)
    refine ⟨_, rfl, .inl ⟨rfl, xs, sq_of hx7⟩, _, rfl, _, rfl, _, rfl, nh (a := bigs t.2.2.2 2) rfl r7 (bigs_sig _ _) (by rw [bigs_len]; rfl) fun H8 b8 r8 => ⟨sz_of (Nat.le_of_ble_eq_true rfl), fun z1 hz1 => ⟨sz_of (Nat.le_of_ble_eq_true rfl), fun z2 hz2 => ?_⟩⟩⟩
    have b58 := b57.trans b8
    have hx8 := b58.at hx (by simpa using npl.symm)
    have tx8 : Tx K H' H8 := rr.tx b58
    have nb : numOf (bigs t.2.2.2 2) = t.2.2.2 := numOf_bigs _ _ (by omega) (Int.lt_of_le_of_lt ob.2.2.2.2.2.2.2.2 (by decide))
    have e9 : Ex H8 (upd (upd H8 z1 (.tup [.int t.2.2.1, .int (numOf (bigs t.2.2.2 2))])) z2 (.tup [.int t.1, .int t.2.1, .ref z1])) := (Ex.new hz1).trans (Ex.new hz2)
    refine ⟨l, xs, .ref z2, rfl, rfl, e9 _ _ hx8, sz_lt (by omega), ?_⟩
    have im : Im K (upd (upd H8 z1 (.tup [.int t.2.2.1, .int (numOf (bigs t.2.2.2 2))])) z2 (.tup [.int t.1, .int t.2.1, .ref z1])) (.ref z2) (nearD t) := .tup (st_of upd_same) (.cons (.int _) (.cons (.int _) (.cons (.tup (st_of (Ex.new hz2 _ _ upd_same)) (by rw [nb]; exact ImAll.ints [t.2.2.1, t.2.2.2])) .nil)))
    have r9 := r8.ex e9
    have hx9 := e9 _ _ hx8
    have ix9 := ImAll.ex e9 (ImAll.tx tx8 _ _ ix)
    have b9 := (b.trans b58).trans (Bt.ex (S := [p]) e9)
    show _ ∧ _
    generalize upd (upd H8 z1 (.tup [.int t.2.2.1, .int (numOf (bigs t.2.2.2 2))])) z2 (.tup [.int t.1, .int t.2.1, .ref z1]) = H9 at *
    have tx := Tx.updL (K := K) (o := .lst (xs ++ [.ref z2])) hx9
    refine ⟨Bt.upd b9 (.inr hl0), r9.upd npl nql, ⟨_, _, _, _, rfl⟩, xs ++ [.ref z2], upd_same, ?_⟩
    rw [take_snoc ht, List.map_append]
    exact (ImAll.tx tx _ _ ix9).app (.cons (Im.tx tx _ _ im) .nil)
  · rintro σ' H' ⟨b, rr, ⟨o1, o2, o3, o4, rfl⟩, xs, hx, ix⟩
    rw [List.drop_length, List.flatMap_nil, List.nil_append] at rr
    rw [List.take_length] at ix
    refine q_asgL (xs := []) (el_lst ea_nil (Nat.zero_le _)) fun m H4 hm e4 h4 => ?_
    have nlm : l ≠ m := ne_of_none hx hm
    obtain ⟨npm, nqm⟩ := rr.newL hm
    have hm0 : H m = none := by
      cases hxx : H m with
      | none => rfl
      | some o =>
        have := b m o (by simpa using npm.symm) hxx
        rw [hm] at this
        cases this
    have r4 := rr.ex e4
    have b4 := b.trans (Bt.ex (S := [p]) e4)
    have hx4 := e4 _ _ hx
    have ix4 := ImAll.ex e4 ix
    refine q_forNh (n := N.names.length) rfl r4 (sigs1 (by omega)) rfl (numOf1 _) (by omega) (fun u σ' H' => Bt [p] H H' ∧ RowAt K H' p dx q ns ((N.names.drop u).flatMap nameB) ∧ (∃ o1 o2 o3 o4, σ' = [some (.ref p), some (.int N.house), some (.int N.number), some (.ref l), o1, o2, o3, o4, some (.ref m)]) ∧ H' l = some (.lst xs) ∧ ImAll K H' xs (N.near.map nearD) ∧ H' m = some (.lst ((N.names.take u).map V.str)))
      (fun H5 b5 r5 => ⟨b4.trans b5, by rw [List.drop_zero]; exact r5, ⟨o1, o2, o3, o4, rfl⟩, b5.at hx4 (by simpa using npl.symm), ImAll.tx (r4.tx b5) _ _ ix4, b5.at h4 (by simpa using npm.symm)⟩) ?_ ?_
    · rintro u σ' H' hu ⟨b, rr, ⟨o1, o2, o3, o4, rfl⟩, hx, ix, hm'⟩
      have ht := List.getElem?_eq_getElem hu
      generalize N.names[u] = s at ht
      have sok := ok.names.ok s (List.mem_of_getElem? ht)
      have nn := nameNum_lt sok
      have hdu : N.names.drop u = s :: N.names.drop (u + 1) := by
        rw [List.drop_eq_getElem_cons hu]
        congr 1
        exact Option.some.inj ((List.getElem?_eq_getElem hu).symm.trans ht)
      rw [hdu, List.flatMap_cons] at rr
      refine ⟨_, rfl, .inl ⟨rfl, _, sq_of hm'⟩, nh (a := nameB s) rfl rr (bigs_sig _ _) (by rw [nameB_len]; rfl) fun H5 b5 r5 => ⟨s, ?_, sok, fun H6 e6 => ?_⟩⟩
      · show [V.int (numOf (bigs (nameNum s) 3))] = _
        rw [numOf_bigs _ _ nn.1 nn.2]
      · have hm6 := e6 _ _ (b5.at hm' (by simpa using npm.symm))
        refine ⟨m, _, .str s, rfl, rfl, hm6, sz_lt (by rw [List.length_map, List.length_take]; omega), ?_⟩
        refine ⟨Bt.upd ((b.trans b5).trans (Bt.ex (S := [p]) e6)) (.inr hm0), (r5.ex e6).upd npm nqm, ⟨_, _, _, _, rfl⟩, ?_, ?_, ?_⟩
        · rw [upd_ne nlm]
          exact e6 _ _ (b5.at hx (by simpa using npl.symm))
        · exact ImAll.tx (Tx.updL hm6) _ _ (ImAll.ex e6 (ImAll.tx (rr.tx b5) _ _ ix))
        · rw [upd_same, take_snoc ht, List.map_append]
          rfl
    · rintro σ' H' ⟨b, rr, ⟨o1, o2, o3, o4, rfl⟩, hx, ix, hm'⟩
      rw [List.drop_length, List.flatMap_nil] at rr
      rw [List.take_length] at hm'
      exact ⟨_, rfl, _, rfl, _, rfl, _, rfl, N, N.names, l, m, xs, rfl, ok, sq_of hx, ix, sq_of hm', List.Perm.refl _, fun v H6 e6 i6 => k v H6 (b.trans (Bt.ex e6)) (rr.ex e6) i6⟩
section
variable {P : Program} {w : World} {K : PySem.W.Frag} {mg : Str → Option Value} {base : Heap}
theorem sc_news_read : FnScope ["row", "house", "number", "near", "k", "other", "quiet", "one", "names"] ["row"] (defScope s_news_read) := ⟨rfl, rfl, rfl, by decide +kernel, rfl, by decide +kernel, by decide +kernel⟩
theorem dr_news_read (T : Wd K mg) (c_SignRow_number_here : Met P w K mg base 3 (He.ga K "SignRow") "number_here" (sp_SignRow_number_here K) []) (c_name_of : Cal P w K mg base 2 "name_of" (sp_name_of K) []) (c_made_news : Cal P w K mg base 3 "made_news" (sp_made_news K) []) {f : Addr} {cdv : Value} {A : Around} {outer : List Env} {s : Shared} {H : Hp} {E : XK} (hr : Room 3 (A.deeper (envOfC "news_read" (defScope s_news_read) s.heap.objs.size f cdv))) :
    PSs (cxOf CX0 P w K mg base ["row", "house", "number", "near", "k", "other", "quiet", "one", "names"] "news_read" (defScope s_news_read) f cdv A outer s H E).nox (defBody s_news_read) (t_news_read K) := by
  have nd := sc_news_read.nd
  exact (pss_cons (ps_set (i := 1) nd rfl (by first | exact Or.inl rfl | exact Or.inr rfl) (pe_mt c_SignRow_number_here hr (by decide) (pv 0) (pa_cons pe_int pa_nil)))
    (pss_cons (ps_set (i := 2) nd rfl (by first | exact Or.inl rfl | exact Or.inr rfl) (pe_mt c_SignRow_number_here hr (by decide) (pv 0) (pa_cons pe_int pa_nil)))
    (pss_cons (ps_set (i := 3) nd rfl (by first | exact Or.inl rfl | exact Or.inr rfl) (pe_lst pa_nil))
    (pss_cons (ps_for PassesOwn.never rfl (pi_range1 (by rfl) (T.free 101) (pa_cons (pe_mt c_SignRow_number_here hr (by decide) (pv 0) (pa_cons pe_int pa_nil)) pa_nil)) (pg_name (i := 4) nd rfl (by first | exact Or.inl rfl | exact Or.inr rfl))
    (pss_cons (ps_set (i := 5) nd rfl (by first | exact Or.inl rfl | exact Or.inr rfl) (pe_mt c_SignRow_number_here hr (by decide) (pv 0) (pa_cons pe_int pa_nil)))
    (pss_cons (ps_set (i := 6) nd rfl (by first | exact Or.inl rfl | exact Or.inr rfl) (pe_mt c_SignRow_number_here hr (by decide) (pv 0) (pa_cons pe_int pa_nil)))
    (pss_cons (ps_set (i := 7) nd rfl (by first | exact Or.inl rfl | exact Or.inr rfl) (pe_mt c_SignRow_number_here hr (by decide) (pv 0) (pa_cons pe_int pa_nil)))
    (pss_one (ps_expr (pe_bm PySem.F.plainAttrs_list PySem.F.slot_list_append PySem.F.type_list_append mt_append (pv 3) (pa_cons (pe_tup (pa_cons (pv 5) (pa_cons (pv 6) (pa_cons (pe_tup (pa_cons (pv 7) (pa_cons (pe_mt c_SignRow_number_here hr (by decide) (pv 0) (pa_cons pe_int pa_nil)) pa_nil))) pa_nil)))) pa_nil))))))))
    (pss_cons (ps_set (i := 8) nd rfl (by first | exact Or.inl rfl | exact Or.inr rfl) (pe_lst pa_nil))
    (pss_cons (ps_for PassesOwn.never rfl (pi_range1 (by rfl) (T.free 101) (pa_cons (pe_mt c_SignRow_number_here hr (by decide) (pv 0) (pa_cons pe_int pa_nil)) pa_nil)) (pg_name (i := 4) nd rfl (by first | exact Or.inl rfl | exact Or.inr rfl))
    (pss_one (ps_expr (pe_bm PySem.F.plainAttrs_list PySem.F.slot_list_append PySem.F.type_list_append mt_append (pv 8) (pa_cons (pe_c c_name_of hr (by decide) rfl (pa_cons (pe_mt c_SignRow_number_here hr (by decide) (pv 0) (pa_cons pe_int pa_nil)) pa_nil)) pa_nil)))))
    (pss_one (ps_ret (pe_c c_made_news hr (by decide) rfl (pa_cons (pv 1) (pa_cons (pv 2) (pa_cons (pv 3) (pa_cons (pv 8) pa_nil)))))))))))))
theorem ok_news_read (T : Wd K mg) (c_SignRow_number_here : Met P w K mg base 3 (He.ga K "SignRow") "number_here" (sp_SignRow_number_here K) []) (c_name_of : Cal P w K mg base 2 "name_of" (sp_name_of K) []) (c_made_news : Cal P w K mg base 3 "made_news" (sp_made_news K) []) {f : Addr} {fd : FuncData} (F : FunD K ds_news_read.name ds_news_read.qual ds_news_read.params ds_news_read.body ds_news_read.scope [] [] f fd) : FnOk P w K mg base CX0 4 f fd ["row"] (sp_news_read K) := by
  refine FunD.ok F sc_news_read (fun vs H Q E h => ?_) (fun cdv A outer s H vs Q E hr h => ⟨t_news_read K, PSs.nox (dr_news_read T c_SignRow_number_here c_name_of c_made_news hr), pure_news_read T vs H Q E h⟩)
  obtain ⟨_, _, _, _, _, e, _⟩ := h
  rw [e]
  all_goals rfl
end
end

end K85
end
section
set_option maxHeartbeats 400000
namespace K85
open PySem PySem.Spec PyProof.Rows
open L2 hiding CX0 E0 pass0
open C8 Evl
/-! ### tactics -/
local macro_rules | `(tactic| walk_at "side") => `(tactic| first | omega | assumption | rfl | decide)
local macro_rules | `(tactic| walk_at "at") => `(tactic| first | (refine at_int ?_ ?_ <;> first | omega | (simp; omega)) | assumption)
local macro_rules | `(tactic| walk_at "rv") => `(tactic| first
  | with_reducible exact rv_I0
  | ((with_reducible apply rv_eq); rfl)
  | ((with_reducible apply rv_ne); rfl)
  | ((with_reducible apply rv_mod); first | omega | decide)
  | ((with_reducible apply rv_mul); omega)
  | ((with_reducible apply rv_div); omega)
  | ((with_reducible apply rv_ixL); · assumption
     · walk_at "at")
  | ((with_reducible apply rv_ixT); · assumption
     · walk_at "at"))
local macro_rules | `(tactic| walk_at "ev") => `(tactic| first
  | ((with_reducible apply ev_var); rfl)
  | with_reducible exact ev_c
  | ((with_reducible apply ev_isN); walk_at "ev")
  | ((with_reducible apply ev_notN); walk_at "ev")
  | ((with_reducible apply ev_op); · walk_at "ev"
     · walk_at "ev"
     · walk_at "rv")
  | ((with_reducible apply ev_un); · walk_at "ev"
     · with_reducible exact ru_neg)
  | ((with_reducible apply ev_chain); · walk_at "ev"
     · walk_at "ev"
     · walk_at "rv"
     · intro _; walk_at "ev"
     · intro _; walk_at "rv")
  | ((with_reducible apply ev_len); · walk_at "ev"
     · assumption)
  | ((with_reducible apply ev_lenT); · walk_at "ev"
     · assumption)
  | ((with_reducible apply ev_andV); · walk_at "ev"
     · intro _; walk_at "ev")
  | with_reducible assumption)
local macro_rules | `(tactic| walk_at "evt") => `(tactic| first
  | ((with_reducible apply et_or); · walk_at "evt"
     · intro _; walk_at "evt")
  | ((with_reducible apply et_and); · walk_at "evt"
     · intro _; walk_at "evt")
  | ((with_reducible apply et_not); walk_at "evt")
  | ((with_reducible apply et_test); walk_at "ev")
  | ((with_reducible apply et_B); walk_at "ev")
  | with_reducible assumption)
local macro_rules | `(tactic| walk_at "bool") => `(tactic| first | rfl | (simp; done) | (simp; omega) | (simp; intros; omega) | grind)
section
variable {K : PySem.W.Frag} {mg : Str → Option Value}
/-! ### news read back -/
def sp_news_of (K : PySem.W.Frag) : Sp := fun vs H Q _ => ∃ (a : Addr) (N : News), vs = [.ref a] ∧ SqT K H a (N.body.map V.int) ∧ N.Ok ∧ RetI K N.data H Q
/-- news_of -/
def t_news_of (K : PySem.W.Frag) : TS :=
    (tSeq (tAsg (tMake (He.ga K "SignRow") (sp_SignRow_init K) [] C8.E0 (tCons (tVar 0) tNil)) (gName 1))
    (tSeq (tAsg (tCall (sp_news_read K) [] C8.E0 (tCons (tVar 1) tNil)) (gName 2))
    (tSeq (tIfS (tOr (tNot (tB (tMeth (He.ga K "SignRow") "is_through" (sp_SignRow_is_through K) [] C8.E0 (tVar 1) tNil))) (tTest (tOp (rNeD K) (tCall (sp_news_body K) [] C8.E0 (tCons (tVar 2) tNil)) (tCB (rTupS K) (tCons (tVar 0) tNil))))) tNever tNext)
    (tRet (tVar 2)))))
theorem pure_news_of (T : Wd K mg) (vs : List V) (H : Hp) (Q : VK) (E : XK) (h : sp_news_of K vs H Q E) : t_news_of K { nx := fun _ H' => Q .non H', rt := Q } (start ["body", "row", "news"] vs) H := by
  obtain ⟨a, N, rfl, ha, ok, k⟩ := h
  refine ⟨_, rfl, fun x dx hx hd nd => ?_⟩
  have e1 : Ex H (upd (upd H dx (.own x)) x (.ins (He.ga K "SignRow") dx [])) := (Ex.new hd).trans (Ex.new (by rw [upd_ne nd.symm]; exact hx))
  have hx1 : (upd (upd H dx (.own x)) x (.ins (He.ga K "SignRow") dx [])) x = some (.ins (He.ga K "SignRow") dx []) := upd_same
  generalize upd (upd H dx (.own x)) x (.ins (He.ga K "SignRow") dx []) = H1 at *
  refine ⟨x, dx, a, N.body, rfl, hx1, .inr (ex_t e1 ha), fun q H2 b2 r2 => ⟨rfl, ?_⟩⟩
  refine ⟨_, rfl, x, dx, q, N.body, N, rfl, r2, ok, fun v H3 b3 r3 i3 => ?_⟩
  have e3 : Ex H H3 := fun y o hy => (b2.trans b3) y o (fun z => by rw [List.mem_singleton.mp z, hx] at hy; cases hy) (e1 _ _ hy)
  have ha3 := ex_t e3 ha
  dsimp only
  refine q_when (b := false) (et_is (et_or (a := false) (b := false) (et_is (et_not (et_B (b := true) ?_)) rfl) (fun _ => et_is (et_test (?_ : Ev _ _ _ (.bl false))) rfl)) rfl) (fun h => nomatch h) fun _ H4 e4 => ?_
  · intro H5 e5 Q5 q5
    obtain ⟨fs, hp, hf⟩ := (r3.ex e5).ins
    exact ⟨.ref x, rfl, x, dx, fs, rfl, hp, hf _ (by decide) (by decide), x, dx, q, N.body, rfl, r3.ex e5, fun H6 e6 => q5 H6 e6⟩
  · intro H5 e5 Q5 q5
    refine evi_news_body (N := N) (ev_var rfl) (Im.ex e5 i3) ok H5 (Ex.refl H5) _ fun w H6 e6 i6 => ?_
    refine evi_tupOf (K := K) (xs := N.body.map V.int) (p := a) (ds := N.body.map PyData.int) (ev_var rfl) (.inr (ex_t (e5.trans e6) ha3)) (ImAll.ints _) H6 (Ex.refl H6) _ fun z H7 e7 i7 => ?_
    refine rv_neD (Im.dp _ _ (Im.ex e7 i6)) (Im.dp _ _ i7) (shaped_tints _) (shaped_tints _) H7 (Ex.refl H7) _ fun H8 e8 => ?_
    rw [eqv_tints]
    simpa using q5 H8 ((e6.trans e7).trans e8)
  · exact s_retI (K := K) (d := N.data) (evi_of (ev_var rfl) (Im.ex e4 i3)) fun v H5 e5 i5 => k v H5 ((e3.trans e4).trans e5) i5
section
variable {P : Program} {w : World} {K : PySem.W.Frag} {mg : Str → Option Value} {base : Heap}
theorem sc_news_of : FnScope ["body", "row", "news"] ["body"] (defScope s_news_of) := ⟨rfl, rfl, rfl, by decide +kernel, rfl, by decide +kernel, by decide +kernel⟩
theorem dr_news_of (T : Wd K mg) (c_SignRow : Mak P w K mg base 1 "SignRow" (He.ga K "SignRow") (sp_SignRow_init K) []) (c_news_read : Cal P w K mg base 4 "news_read" (sp_news_read K) []) (c_SignRow_is_through : Met P w K mg base 1 (He.ga K "SignRow") "is_through" (sp_SignRow_is_through K) []) (c_news_body : Cal P w K mg base 2 "news_body" (sp_news_body K) []) {f : Addr} {cdv : Value} {A : Around} {outer : List Env} {s : Shared} {H : Hp} {E : XK} (hr : Room 4 (A.deeper (envOfC "news_of" (defScope s_news_of) s.heap.objs.size f cdv))) :
    PSs (cxOf CX0 P w K mg base ["body", "row", "news"] "news_of" (defScope s_news_of) f cdv A outer s H E).nox (defBody s_news_of) (t_news_of K) := by
  have nd := sc_news_of.nd
  exact (pss_cons (ps_set (i := 1) nd rfl (by first | exact Or.inl rfl | exact Or.inr rfl) (pe_mk c_SignRow hr (by decide) rfl (pa_cons (pv 0) pa_nil)))
    (pss_cons (ps_try_thru0 (pss_one (ps_set (i := 2) nd rfl (by first | exact Or.inl rfl | exact Or.inr rfl) (pe_c c_news_read hr (by decide) rfl (pa_cons (pv 1) pa_nil)))))
    (pss_cons (ps_if (PW.pt (pw_or (pt_not (pt_val (pe_mt0 c_SignRow_is_through hr (by decide) (pv 1)))) (pw_or1 (pt_cmpR (op_neD hr.units) (pe_c c_news_body hr (by decide) rfl (pa_cons (pv 2) pa_nil)) (pe_callTy call_tuple_of (by rfl) (T.free 106) (by decide +kernel) (pa_cons (pv 0) pa_nil)) (nomark _))))) pss_never pss_nil)
    (pss_one (ps_ret (pv 2))))))
theorem ok_news_of (T : Wd K mg) (c_SignRow : Mak P w K mg base 1 "SignRow" (He.ga K "SignRow") (sp_SignRow_init K) []) (c_news_read : Cal P w K mg base 4 "news_read" (sp_news_read K) []) (c_SignRow_is_through : Met P w K mg base 1 (He.ga K "SignRow") "is_through" (sp_SignRow_is_through K) []) (c_news_body : Cal P w K mg base 2 "news_body" (sp_news_body K) []) {f : Addr} {fd : FuncData} (F : FunD K ds_news_of.name ds_news_of.qual ds_news_of.params ds_news_of.body ds_news_of.scope [] [] f fd) : FnOk P w K mg base CX0 5 f fd ["body"] (sp_news_of K) := by
  refine FunD.ok F sc_news_of (fun vs H Q E h => ?_) (fun cdv A outer s H vs Q E hr h => ⟨t_news_of K, PSs.nox (dr_news_of T c_SignRow c_news_read c_SignRow_is_through c_news_body hr), pure_news_of T vs H Q E h⟩)
  obtain ⟨_, _, e, _⟩ := h
  rw [e]
  all_goals rfl
end
theorem evi_news_of {σ : L2.St} {H : Hp} {te : TE} {a : Addr} {N : News} (h : Ev te σ H (.ref a)) (ha : SqT K H a (N.body.map V.int)) (ok : N.Ok) : EvI K (tCall (sp_news_of K) [] E0 (tCons te tNil)) σ H N.data :=
  evi_call (ea_cons h ea_nil) fun _ e _ q _ => ⟨a, N, rfl, ex_t e ha, ok, q⟩
end

end K85
end
section
set_option maxHeartbeats 400000
namespace K85
open PySem PySem.Spec PyProof.Rows
open L2 hiding CX0 E0 pass0
open C8 Evl
/-! ### tactics -/
local macro_rules | `(tactic| walk_at "side") => `(tactic| first | omega | assumption | rfl | decide)
local macro_rules | `(tactic| walk_at "at") => `(tactic| first | (refine at_int ?_ ?_ <;> first | omega | (simp; omega)) | assumption)
local macro_rules | `(tactic| walk_at "rv") => `(tactic| first
  | with_reducible exact rv_I0
  | ((with_reducible apply rv_eq); rfl)
  | ((with_reducible apply rv_ne); rfl)
  | ((with_reducible apply rv_mod); first | omega | decide)
  | ((with_reducible apply rv_mul); omega)
  | ((with_reducible apply rv_div); omega)
  | ((with_reducible apply rv_ixL); · assumption
     · walk_at "at")
  | ((with_reducible apply rv_ixT); · assumption
     · walk_at "at"))
local macro_rules | `(tactic| walk_at "ev") => `(tactic| first
  | ((with_reducible apply ev_var); rfl)
  | with_reducible exact ev_c
  | ((with_reducible apply ev_isN); walk_at "ev")
  | ((with_reducible apply ev_notN); walk_at "ev")
  | ((with_reducible apply ev_op); · walk_at "ev"
     · walk_at "ev"
     · walk_at "rv")
  | ((with_reducible apply ev_un); · walk_at "ev"
     · with_reducible exact ru_neg)
  | ((with_reducible apply ev_chain); · walk_at "ev"
     · walk_at "ev"
     · walk_at "rv"
     · intro _; walk_at "ev"
     · intro _; walk_at "rv")
  | ((with_reducible apply ev_len); · walk_at "ev"
     · assumption)
  | ((with_reducible apply ev_lenT); · walk_at "ev"
     · assumption)
  | ((with_reducible apply ev_andV); · walk_at "ev"
     · intro _; walk_at "ev")
  | with_reducible assumption)
local macro_rules | `(tactic| walk_at "evt") => `(tactic| first
  | ((with_reducible apply et_or); · walk_at "evt"
     · intro _; walk_at "evt")
  | ((with_reducible apply et_and); · walk_at "evt"
     · intro _; walk_at "evt")
  | ((with_reducible apply et_not); walk_at "evt")
  | ((with_reducible apply et_test); walk_at "ev")
  | ((with_reducible apply et_B); walk_at "ev")
  | with_reducible assumption)
local macro_rules | `(tactic| walk_at "bool") => `(tactic| first | rfl | (simp; done) | (simp; omega) | (simp; intros; omega) | grind)
section
variable {K : PySem.W.Frag} {mg : Str → Option Value}
/-! ### maps -/
abbrev MF : Type := Int → Option News
structure MF.Ok (f : MF) : Prop where
  ok : ∀ h N, f h = some N → N.house = h ∧ N.Ok
def hsL (f : MF) : List Nat := (List.range 32).filter fun i => (f (i : Int)).isSome
structure MapAt (K : PySem.W.Frag) (H : Hp) (p d : Addr) (kvs : List (Key × V)) (ks : List Int) (f : MF) : Prop where
  ins : ∃ dx, H p = some (.ins (He.ga K "Map") dx [("kept_news", .ref d)])
  dict : H d = some (.dK kvs)
  keys : kvs.map (·.1) = ks.map Sum.inl
  nd : ks.Nodup
  no : ∀ h, f h = none → h ∉ ks
  yes : ∀ h N, f h = some N → N.house = h ∧ N.Ok ∧ ∃ v, (Sum.inl h, v) ∈ kvs ∧ Im K H v N.data
theorem inl_nodup {ks : List Int} (h : ks.Nodup) : (ks.map (Sum.inl : Int → Key)).Nodup := by
  rw [List.Nodup, List.pairwise_map]
  exact h.imp fun h z => h (Sum.inl.inj z)
section
variable {H H' : Hp} {p d : Addr} {kvs : List (Key × V)} {ks : List Int} {f : MF}
theorem MapAt.keep (M : MapAt K H p d kvs ks f) (hp : ∀ o, H p = some o → H' p = some o) (hd : ∀ o, H d = some o → H' d = some o) (tx : Tx K H H') : MapAt K H' p d kvs ks f where
  ins := by obtain ⟨dx, h⟩ := M.ins; exact ⟨dx, hp _ h⟩
  dict := hd _ M.dict
  keys := M.keys
  nd := M.nd
  no := M.no
  yes := fun h N e => by obtain ⟨a, b, v, hv, i⟩ := M.yes h N e; exact ⟨a, b, v, hv, Im.tx tx _ _ i⟩
theorem MapAt.ex (M : MapAt K H p d kvs ks f) (e : Ex H H') : MapAt K H' p d kvs ks f := M.keep (e p) (e d) (Tx.ex e)
theorem MapAt.get (M : MapAt K H p d kvs ks f) {h : Int} {N : News} (e : f h = some N) : ∃ v, valV kvs (Sum.inl h) = some v ∧ Im K H v N.data := by
  obtain ⟨a, b, v, hv, i⟩ := M.yes h N e
  have nd : (kvs.map (·.1)).Nodup := by rw [M.keys]; exact inl_nodup M.nd
  exact ⟨v, val_nodup nd _ hv, i⟩
theorem MapAt.none_ (M : MapAt K H p d kvs ks f) {h : Int} (e : f h = none) : valV kvs (Sum.inl h : Key) = none := by
  cases hv : valV kvs (Sum.inl h : Key) with
  | none => rfl
  | some v =>
    have := valV_in hv
    rw [M.keys, List.mem_map] at this
    obtain ⟨x, hx, e2⟩ := this
    rw [Sum.inl.inj e2] at hx
    exact absurd hx (M.no h e)
theorem MapAt.some_ (M : MapAt K H p d kvs ks f) (h : Int) : (valV kvs (Sum.inl h : Key)).isSome = (f h).isSome := by
  cases e : f h with
  | none => rw [M.none_ e]; rfl
  | some N =>
    obtain ⟨v, hv, _⟩ := M.get e
    rw [hv]
    rfl
theorem MapAt.mem (M : MapAt K H p d kvs ks f) (h : Int) : h ∈ ks ↔ (f h).isSome = true := by
  constructor
  · intro hk
    cases e : f h with
    | none => exact absurd hk (M.no h e)
    | some N => rfl
  · intro hk
    cases e : f h with
    | none => rw [e] at hk; cases hk
    | some N =>
      obtain ⟨a, b, v, hv, i⟩ := M.yes h N e
      have := List.mem_map_of_mem (f := (·.1)) hv
      rw [M.keys, List.mem_map] at this
      obtain ⟨x, hx, e2⟩ := this
      rw [← Sum.inl.inj e2]
      exact hx
theorem MapAt.perm (M : MapAt K H p d kvs ks f) : ks.Perm ((hsL f).map fun i : Nat => (i : Int)) := by
  refine (List.perm_ext_iff_of_nodup M.nd ?_).mpr fun h => ?_
  · rw [List.Nodup, List.pairwise_map]
    exact ((List.nodup_range (n := 32)).filter _).imp fun hne z => hne (by omega)
  · rw [M.mem, List.mem_map]
    constructor
    · intro e
      cases ef : f h with
      | none => rw [ef] at e; cases e
      | some N =>
        obtain ⟨a, b, _⟩ := M.yes h N ef
        have h0 := b.h0
        refine ⟨h.toNat, ?_, by omega⟩
        unfold hsL
        rw [List.mem_filter, List.mem_range]
        refine ⟨by omega, ?_⟩
        rw [show ((h.toNat : Nat) : Int) = h by omega, ef]
        rfl
    · rintro ⟨i, hi, rfl⟩
      unfold hsL at hi
      rw [List.mem_filter] at hi
      exact hi.2
theorem hsL_len (f : MF) : (hsL f).length ≤ 32 := Nat.le_trans (List.length_filter_le _ _) (by rw [List.length_range]; exact Nat.le_refl _)
theorem MapAt.small (M : MapAt K H p d kvs ks f) : kvs.length ≤ 32 := by
  have := congrArg List.length M.keys
  rw [List.length_map, List.length_map, M.perm.length_eq, List.length_map] at this
  rw [this]
  exact hsL_len f
end
theorem perm_srt_int : ∀ {xs ys : List Int}, xs.Perm ys → xs.Pairwise (· ≤ ·) → ys.Pairwise (· ≤ ·) → xs = ys
  | [], ys, p, _, _ => (List.nil_perm.mp p).symm
  | x :: xs, [], p, _, _ => absurd (List.perm_nil.mp p) (by simp)
  | x :: xs, y :: ys, p, h1, h2 => by
    rw [List.pairwise_cons] at h1 h2
    have hx : x ∈ y :: ys := p.mem_iff.mp List.mem_cons_self
    have hy : y ∈ x :: xs := p.mem_iff.mpr List.mem_cons_self
    have e : x = y := by
      rcases List.mem_cons.mp hx with e | hx
      · exact e
      · rcases List.mem_cons.mp hy with e | hy
        · exact e.symm
        · exact Int.le_antisymm (h1.1 y hy) (h2.1 x hx)
    subst e
    rw [perm_srt_int ((List.perm_cons x).mp p) h1.2 h2.2]
theorem hsL_srt (f : MF) : ((hsL f).map fun i : Nat => (i : Int)).Pairwise (· ≤ ·) := by
  rw [List.pairwise_map]
  unfold hsL
  exact (List.Pairwise.filter _ (List.pairwise_lt_range (n := 32))).imp fun h => by omega
section
variable {σ : L2.St} {H : Hp} {p d : Addr} {kvs : List (Key × V)} {ks : List Int} {f : MF} {i : Nat} {ty : TE} {h : Int}
theorem ev_kept (T : Wd K mg) (M : MapAt K H p d kvs ks f) (hσ : σ[i]? = some (some (.ref p))) : Ev (tFld K (tVar i) "kept_news") σ H (.ref d) := by
  obtain ⟨dx, hp⟩ := M.ins
  exact ev_fld (ev_var hσ) hp (cl_Map T) (na_Map_kept_news T) rfl
/-- sorted(list(self.kept_news)) -/
theorem el_houses (T : Wd K mg) (M : MapAt K H p d kvs ks f) (hσ : σ[i]? = some (some (.ref p))) : EvL (tCB (rSortedI K) (tCons (tCB rListD (tCons (tFld K (tVar i) "kept_news") tNil)) tNil)) σ H (((hsL f).map fun i : Nat => (i : Int)).map V.int) := fun H1 e1 Q q =>
  ev_kept T M hσ H1 e1 _ fun H2 e2 => ⟨d, kvs, rfl, (e1.trans e2) _ _ M.dict, fun q1 hq1 => by
    refine ⟨q1, ks, rfl, sq_of ?_, fun ns p2 pm sr hp2 => ?_⟩
    · rw [upd_same]
      congr 2
      have : (kvs.map fun kv => kV kv.1) = (kvs.map (·.1)).map kV := by rw [List.map_map]; rfl
      rw [this, M.keys, List.map_map]
      rfl
    · rw [perm_srt_int (pm.trans M.perm) sr (hsL_srt f)]
      exact q p2 _ (fresh_back (e2.trans (Ex.new hq1)) hp2) ((e2.trans (Ex.new hq1)).trans (Ex.new hp2)) upd_same⟩
theorem ev_dget {d : Addr} {kvs : List (Key × V)} {k : Key} {v : V} {td ty : TE} (hd : Ev td σ H (.ref d)) (hk : Ev ty σ H (kV k)) (h : H d = some (.dK kvs)) (hv : valV kvs k = some v) : Ev (tDGet td ty) σ H v := fun H1 e1 Q q =>
  hd H1 e1 _ fun H2 e2 => hk H2 (e1.trans e2) _ fun H3 e3 => ⟨d, v, rfl, by rw [← hv]; exact DGet.k ((e1.trans (e2.trans e3)) _ _ h), q H3 (e2.trans e3)⟩
theorem evi_keptAt (T : Wd K mg) (M : MapAt K H p d kvs ks f) (hσ : σ[i]? = some (some (.ref p))) {N : News} (hk : Ev ty σ H (.int h)) (e : f h = some N) : EvI K (tDGet (tFld K (tVar i) "kept_news") ty) σ H N.data := by
  obtain ⟨v, hv, im⟩ := M.get e
  exact evi_of (ev_dget (k := Sum.inl h) (ev_kept T M hσ) hk M.dict hv) im
end
def sp_Map_init (K : PySem.W.Frag) : Sp := fun vs H Q _ => ∃ (p dx : Addr), vs = [.ref p] ∧ H p = some (.ins (He.ga K "Map") dx []) ∧ ∀ d H', H d = none → Bt [p] H H' → MapAt K H' p d [] [] (fun _ => none) → Q .non H'
/-- Map.__init__ -/
def t_Map_init (K : PySem.W.Frag) : TS :=
    (sFld K (tVar 0) tDNewK "kept_news")
theorem pure_Map_init (T : Wd K mg) (vs : List V) (H : Hp) (Q : VK) (E : XK) (h : sp_Map_init K vs H Q E) : t_Map_init K { nx := fun _ H' => Q .non H', rt := Q } (start ["self"] vs) H := by
  obtain ⟨p, dx, rfl, hp, k⟩ := h
  intro l hl
  have npl : p ≠ l := ne_of_none hp hl
  refine ⟨_, rfl, p, _, dx, _, rfl, by rw [upd_ne npl]; exact hp, cl_Map T, na_Map_kept_news T, by decide, ?_⟩
  refine k l _ hl (Bt.upd (Bt.ex (Ex.new hl)) (.inl (by simp))) ⟨⟨dx, upd_same⟩, by rw [upd_ne npl.symm]; exact upd_same, rfl, List.nodup_nil, fun h _ => by simp, fun h N e => nomatch e⟩
section
variable {P : Program} {w : World} {K : PySem.W.Frag} {mg : Str → Option Value} {base : Heap}
theorem sc_Map_init : FnScope ["self"] ["self"] (defScope s_Map_init) := ⟨rfl, rfl, rfl, by decide +kernel, rfl, by decide +kernel, by decide +kernel⟩
theorem dr_Map_init (T : Wd K mg) {f : Addr} {cdv : Value} {A : Around} {outer : List Env} {s : Shared} {H : Hp} {E : XK} (hr : Room 0 (A.deeper (envOfC "Map.__init__" (defScope s_Map_init) s.heap.objs.size f cdv))) :
    PSs (cxOf CX0 P w K mg base ["self"] "Map.__init__" (defScope s_Map_init) f cdv A outer s H E).nox (defBody s_Map_init) (t_Map_init K) := by
  have nd := sc_Map_init.nd
  exact (pss_one (ps_fld (pv 0) pe_dnewK rfl))
theorem ok_Map_init (T : Wd K mg) {f : Addr} {fd : FuncData} (F : FunD K ds_Map_init.name ds_Map_init.qual ds_Map_init.params ds_Map_init.body ds_Map_init.scope [] [] f fd) : FnOk P w K mg base CX0 1 f fd ["self"] (sp_Map_init K) := by
  refine FunD.ok F sc_Map_init (fun vs H Q E h => ?_) (fun cdv A outer s H vs Q E hr h => ⟨t_Map_init K, PSs.nox (dr_Map_init T  hr), pure_Map_init T vs H Q E h⟩)
  obtain ⟨_, _, e, _⟩ := h
  rw [e]
  all_goals rfl
end
def hearF (f : MF) (N : News) : MF := fun h => if h = N.house then (match f h with | some M => if N.number ≤ M.number then some M else some N | none => some N) else f h
theorem news_ix {σ : L2.St} {H : Hp} {v : V} {N : News} {te : TE} (hi : Im K H v N.data) (h : Ev te σ H v) : Ev (tOp (rIxT K) te (tC (.int 0))) σ H (.int N.house) ∧ Ev (tOp (rIxT K) te (tC (.int 1))) σ H (.int N.number) := by
  obtain ⟨p, a, b, xs, rfl, hp, ha, ia, hb⟩ := news_inv hi
  exact ⟨ev_op h ev_c (rv_ixT hp (at_nat (by decide) rfl)), ev_op h ev_c (rv_ixT hp (at_nat (by decide) rfl))⟩
def sp_Map_hear (K : PySem.W.Frag) : Sp := fun vs H Q _ => ∃ (p d : Addr) (kvs : List (Key × V)) (ks : List Int) (f : MF) (v : V) (N : News), vs = [.ref p, v] ∧ MapAt K H p d kvs ks f ∧ Im K H v N.data ∧ N.Ok ∧ ∀ b kvs' ks' H', Bt [d] H H' → MapAt K H' p d kvs' ks' (hearF f N) → Q (.bl b) H'
/-- Map.hear -/
def t_Map_hear (K : PySem.W.Frag) : TS :=
    (tSeq (tIfS (tAnd (tB (tDIn (tOp (rIxT K) (tVar 1) (tC (.int 0))) (tFld K (tVar 0) "kept_news"))) (tTest (tOp rGeI (tOp (rIxT K) (tDGet (tFld K (tVar 0) "kept_news") (tOp (rIxT K) (tVar 1) (tC (.int 0)))) (tC (.int 1))) (tOp (rIxT K) (tVar 1) (tC (.int 1)))))) (tRet (tC (.bl false))) tNext)
    (tSeq (sDPut (tFld K (tVar 0) "kept_news") (tOp (rIxT K) (tVar 1) (tC (.int 0))) (tVar 1))
    (tRet (tC (.bl true)))))
theorem MapAt.ne {H : Hp} {p d : Addr} {kvs : List (Key × V)} {ks : List Int} {f : MF} (M : MapAt K H p d kvs ks f) : p ≠ d := by
  obtain ⟨dx, hp⟩ := M.ins
  exact ne_of hp M.dict (by intro z; cases z)
theorem MapAt.put {H : Hp} {p d : Addr} {kvs : List (Key × V)} {ks : List Int} {f g : MF} (M : MapAt K H p d kvs ks f) {v : V} {N : News} (hi : Im K H v N.data) (ok : N.Ok) (hg : ∀ h, g h = if h = N.house then some N else f h) : ∃ ks', MapAt K (upd H d (.dK (putK kvs (Sum.inl N.house) v))) p d (putK kvs (Sum.inl N.house) v) ks' g := by
  have tx : Tx K H (upd H d (.dK (putK kvs (Sum.inl N.house) v))) := Bt.tx (S := [d]) (Bt.upd (Bt.refl _ _) (.inl (by simp))) fun q hq => by
    rw [List.mem_singleton.mp hq]
    exact ⟨_, M.dict, fun xs z => (by cases z), fun b u z => (by cases z)⟩
  have ins : ∃ dx, (upd H d (.dK (putK kvs (Sum.inl N.house) v))) p = some (.ins (He.ga K "Map") dx [("kept_news", .ref d)]) := by
    obtain ⟨dx, hp⟩ := M.ins
    exact ⟨dx, by rw [upd_ne M.ne]; exact hp⟩
  have vp := fun j => valV_put kvs (Sum.inl N.house : Key) j v
  have getm : ∀ (kvs : List (Key × V)) (k : Key) (w : V), valV kvs k = some w → (k, w) ∈ kvs := fun kvs k w e => by
    unfold valV at e
    rw [Option.map_eq_some_iff] at e
    obtain ⟨kv, h1, h2⟩ := e
    have := List.find?_some h1
    have h3 := List.mem_of_find?_eq_some h1
    rw [← h2, ← of_decide_eq_true this]
    exact h3
  have yes : ∀ h M', g h = some M' → M'.house = h ∧ M'.Ok ∧ ∃ w, ((Sum.inl h : Key), w) ∈ putK kvs (Sum.inl N.house) v ∧ Im K (upd H d (.dK (putK kvs (Sum.inl N.house) v))) w M'.data := fun h M' e => by
    rw [hg] at e
    by_cases hh : h = N.house
    · rw [if_pos hh] at e
      cases e
      refine ⟨hh.symm, ok, v, getm _ _ _ ?_, Im.tx tx _ _ hi⟩
      rw [vp, if_pos (by rw [hh])]
    · rw [if_neg hh] at e
      obtain ⟨a, b, _⟩ := M.yes h M' e
      obtain ⟨w, hw, iw⟩ := M.get e
      refine ⟨a, b, w, getm _ _ _ ?_, Im.tx tx _ _ iw⟩
      rw [vp, if_neg (fun z => hh (Sum.inl.inj z)), hw]
  by_cases hk : N.house ∈ ks
  · refine ⟨ks, ins, upd_same, ?_, M.nd, fun h e => ?_, yes⟩
    · have : (kvs.any fun kv => decide (kv.1 = (Sum.inl N.house : Key))) = true := by
        rw [valV_any, M.some_, ← M.mem]
        exact hk
      unfold putK
      rw [if_pos this, List.map_map, ← M.keys]
      refine List.map_congr_left fun kv _ => ?_
      show (if kv.1 = _ then _ else _ : Key × V).1 = _
      split <;> rfl
    · rw [hg] at e
      split at e
      · cases e
      · exact M.no h e
  · have hn : f N.house = none := by
      cases e : f N.house with
      | none => rfl
      | some N' => exact absurd ((M.mem _).mpr (by rw [e]; rfl)) hk
    refine ⟨ks ++ [N.house], ins, upd_same, ?_, ?_, fun h e => ?_, yes⟩
    · rw [putK_new v (M.none_ hn), List.map_append, M.keys, List.map_append]
      rfl
    · rw [List.nodup_append]
      refine ⟨M.nd, by simp, fun a ha b hb z => ?_⟩
      rw [List.mem_singleton.mp hb] at z
      exact hk (z ▸ ha)
    · rw [hg] at e
      split at e
      · cases e
      · rename_i hne
        rw [List.mem_append, List.mem_singleton]
        rintro (h1 | h1)
        · exact M.no h e h1
        · exact hne h1
theorem pure_Map_hear (T : Wd K mg) (vs : List V) (H : Hp) (Q : VK) (E : XK) (h : sp_Map_hear K vs H Q E) : t_Map_hear K { nx := fun _ H' => Q .non H', rt := Q } (start ["self", "news"] vs) H := by
  obtain ⟨p, d, kvs, ks, f, v, N, rfl, M, hi, ok, k⟩ := h
  have h0 : ∀ H1, Ex H H1 → Ev (tOp (rIxT K) (tVar 1) (tC (.int 0))) [some (.ref p), some v] H1 (.int N.house) := fun H1 e1 => (news_ix (Im.ex e1 hi) (ev_var rfl)).1
  have h1 : ∀ H1, Ex H H1 → Ev (tOp (rIxT K) (tVar 1) (tC (.int 1))) [some (.ref p), some v] H1 (.int N.number) := fun H1 e1 => (news_ix (Im.ex e1 hi) (ev_var rfl)).2
  have fin : ∀ H1, Ex H H1 → (∀ h, hearF f N h = if h = N.house then some N else f h) → tSeq (sDPut (tFld K (tVar 0) "kept_news") (tOp (rIxT K) (tVar 1) (tC (.int 0))) (tVar 1)) (tRet (tC (.bl true))) { nx := fun _ H' => Q .non H', rt := Q } [some (.ref p), some v] H1 := fun H1 e1 hg => by
    have M1 := M.ex e1
    refine q_dput (k := Sum.inl N.house) (ev_var rfl) (ev_kept T M1 rfl) (h0 H1 e1) M1.dict (by have := M.small; omega) fun H2 e2 => ?_
    have M2 := M1.ex e2
    obtain ⟨ks', M3⟩ := M2.put (Im.ex (e1.trans e2) hi) ok hg
    exact s_ret ev_c fun H4 e4 => k true _ ks' H4 (Bt.trans (Bt.upd (Bt.ex (e1.trans e2)) (.inl (by simp))) (Bt.ex e4)) (M3.ex e4)
  cases e : f N.house with
  | none =>
    refine q_when (b := false) (et_is (et_and (a := false) (b := false) (et_is (et_din (k := Sum.inl N.house) (h0 H (Ex.refl H)) (ev_kept T M rfl) M.dict) (by rw [M.some_, e]; rfl)) (fun h => nomatch h)) rfl) (fun h => nomatch h) fun _ H1 e1 => fin H1 e1 fun h => ?_
    unfold hearF
    split
    · rename_i hh
      rw [hh, e]
    · rfl
  | some N' =>
    obtain ⟨w, hw, iw⟩ := M.get e
    refine q_when (b := decide (N.number ≤ N'.number)) (et_is (et_and (a := true) (et_is (et_din (k := Sum.inl N.house) (h0 H (Ex.refl H)) (ev_kept T M rfl) M.dict) (by rw [M.some_, e]; rfl)) (fun _ => et_test (ev_op (news_ix iw (ev_dget (k := Sum.inl N.house) (ev_kept T M rfl) (h0 H (Ex.refl H)) M.dict hw)).2 (h1 H (Ex.refl H)) rv_I0))) (by simp)) (fun hb H1 e1 => s_ret ev_c fun H2 e2 => ?_) fun hb H1 e1 => fin H1 e1 fun h => ?_
    · have hb := of_decide_eq_true hb
      refine k false kvs ks H2 (Bt.ex (e1.trans e2)) ?_
      have : hearF f N = f := by
        funext h
        unfold hearF
        split
        · rename_i hh
          rw [hh, e]
          simp [hb]
        · rfl
      rw [this]
      exact M.ex (e1.trans e2)
    · have hb := of_decide_eq_false hb
      unfold hearF
      split
      · rename_i hh
        rw [hh, e]
        simp [hb]
      · rfl
section
variable {P : Program} {w : World} {K : PySem.W.Frag} {mg : Str → Option Value} {base : Heap}
theorem sc_Map_hear : FnScope ["self", "news"] ["self", "news"] (defScope s_Map_hear) := ⟨rfl, rfl, rfl, by decide +kernel, rfl, by decide +kernel, by decide +kernel⟩
theorem dr_Map_hear (T : Wd K mg) {f : Addr} {cdv : Value} {A : Around} {outer : List Env} {s : Shared} {H : Hp} {E : XK} (hr : Room 0 (A.deeper (envOfC "Map.hear" (defScope s_Map_hear) s.heap.objs.size f cdv))) :
    PSs (cxOf CX0 P w K mg base ["self", "news"] "Map.hear" (defScope s_Map_hear) f cdv A outer s H E).nox (defBody s_Map_hear) (t_Map_hear K) := by
  have nd := sc_Map_hear.nd
  exact (pss_cons (ps_if (PW.pt (pw_and (pt_cmp (pc_din (hu_of hr) (pe_ix ix_tup (pv 1) pe_int (fun _ _ => rfl)) (pe_fld (pv 0) rfl))) (pw_and1 (pt_cmpR op_ge (pe_ix ix_tup (pe_dget (hu_of hr) (pe_fld (pv 0) rfl) (pe_ix ix_tup (pv 1) pe_int (fun _ _ => rfl)) (fun _ _ => rfl)) pe_int (fun _ _ => rfl)) (pe_ix ix_tup (pv 1) pe_int (fun _ _ => rfl)) (nomark _))))) (pss_one (ps_ret pe_bl)) pss_nil)
    (pss_cons (ps_dput (hu_of hr) (pe_fld (pv 0) rfl) (pe_ix ix_tup (pv 1) pe_int (fun _ _ => rfl)) (pv 1) rfl)
    (pss_one (ps_ret pe_bl))))
theorem ok_Map_hear (T : Wd K mg) {f : Addr} {fd : FuncData} (F : FunD K ds_Map_hear.name ds_Map_hear.qual ds_Map_hear.params ds_Map_hear.body ds_Map_hear.scope [] [] f fd) : FnOk P w K mg base CX0 1 f fd ["self", "news"] (sp_Map_hear K) := by
  refine FunD.ok F sc_Map_hear (fun vs H Q E h => ?_) (fun cdv A outer s H vs Q E hr h => ⟨t_Map_hear K, PSs.nox (dr_Map_hear T  hr), pure_Map_hear T vs H Q E h⟩)
  obtain ⟨_, _, _, _, _, _, _, e, _⟩ := h
  rw [e]
  all_goals rfl
end
end

end K85
end
section
set_option maxHeartbeats 400000
namespace K85
open PySem PySem.Spec PyProof.Rows
open L2 hiding CX0 E0 pass0
open C8 Evl
/-! ### tactics -/
local macro_rules | `(tactic| walk_at "side") => `(tactic| first | omega | assumption | rfl | decide)
local macro_rules | `(tactic| walk_at "at") => `(tactic| first | (refine at_int ?_ ?_ <;> first | omega | (simp; omega)) | assumption)
local macro_rules | `(tactic| walk_at "rv") => `(tactic| first
  | with_reducible exact rv_I0
  | ((with_reducible apply rv_eq); rfl)
  | ((with_reducible apply rv_ne); rfl)
  | ((with_reducible apply rv_mod); first | omega | decide)
  | ((with_reducible apply rv_mul); omega)
  | ((with_reducible apply rv_div); omega)
  | ((with_reducible apply rv_ixL); · assumption
     · walk_at "at")
  | ((with_reducible apply rv_ixT); · assumption
     · walk_at "at"))
local macro_rules | `(tactic| walk_at "ev") => `(tactic| first
  | ((with_reducible apply ev_var); rfl)
  | with_reducible exact ev_c
  | ((with_reducible apply ev_isN); walk_at "ev")
  | ((with_reducible apply ev_notN); walk_at "ev")
  | ((with_reducible apply ev_op); · walk_at "ev"
     · walk_at "ev"
     · walk_at "rv")
  | ((with_reducible apply ev_un); · walk_at "ev"
     · with_reducible exact ru_neg)
  | ((with_reducible apply ev_chain); · walk_at "ev"
     · walk_at "ev"
     · walk_at "rv"
     · intro _; walk_at "ev"
     · intro _; walk_at "rv")
  | ((with_reducible apply ev_len); · walk_at "ev"
     · assumption)
  | ((with_reducible apply ev_lenT); · walk_at "ev"
     · assumption)
  | ((with_reducible apply ev_andV); · walk_at "ev"
     · intro _; walk_at "ev")
  | with_reducible assumption)
local macro_rules | `(tactic| walk_at "evt") => `(tactic| first
  | ((with_reducible apply et_or); · walk_at "evt"
     · intro _; walk_at "evt")
  | ((with_reducible apply et_and); · walk_at "evt"
     · intro _; walk_at "evt")
  | ((with_reducible apply et_not); walk_at "evt")
  | ((with_reducible apply et_test); walk_at "ev")
  | ((with_reducible apply et_B); walk_at "ev")
  | with_reducible assumption)
local macro_rules | `(tactic| walk_at "bool") => `(tactic| first | rfl | (simp; done) | (simp; omega) | (simp; intros; omega) | grind)
section
variable {K : PySem.W.Frag} {mg : Str → Option Value}
section
variable {σ : L2.St} {H : Hp} {tl te : TE} {g : TG} {vs : List Nat}
theorem eil_lcN {xs : List V} (d : Nat → PyData) (h : EvL tl σ H xs) (hz : xs.length ≤ 40000)
    (hs : ∀ (i : Nat) x H', xs[i]? = some x → Ex H H' → ∀ P : L2.St → Hp → Prop, (∀ σ2, wipe σ2 vs = wipe σ vs → EvI K te σ2 H' (d i) → P σ2 H') → g x (wipe σ vs) H' P) : EvIL K (tLc (iList K tl) g tYes te vs) σ H ((List.range xs.length).map d) := fun H0 e0 Q q => by
  refine lcN_any (EvL.mono e0 h) (fun a Dl i H' => H0 Dl = none ∧ Dl ≠ a ∧ H' a = some (.lst xs) ∧ Ex H0 H' ∧ ∃ ys, H' Dl = some (.lst ys) ∧ ImAll K H' ys ((List.range i).map d)) (fun a Dl H1 ha hD e1 h1 hD1 => ⟨hD, (ne_of_none h1 hD1).symm, by rw [upd_ne (ne_of_none h1 hD1)]; exact h1, Ex.mut e1 hD, [], upd_same, .nil⟩) (fun a Dl i H' _ p => sq_of p.2.2.1) (fun a Dl i x H' hi p => ?_) fun a Dl H' p => ?_
  · obtain ⟨hD, na, ha, e, ys, hy, iy⟩ := p
    refine hs i x H' hi (e0.trans e) _ fun σ2 hw hev => ⟨hw, ?_⟩
    show te σ2 H' _
    refine hev H' (Ex.refl H') _ fun v H4 e4 i4 => ?_
    have hl := iy.length
    rw [List.length_map, List.length_range] at hl
    have hxl := (List.getElem?_eq_some_iff.mp hi).1
    refine ⟨ys, e4 _ _ hy, sz_lt (by omega), hD, na, by rw [upd_ne na.symm]; exact e4 _ _ ha, Ex.mut (e.trans e4) hD, _, upd_same, ?_⟩
    rw [List.range_succ, List.map_append]
    exact ImAll.tx (Tx.updL (e4 _ _ hy)) _ _ (ImAll.app (ImAll.ex e4 iy) (.cons i4 .nil))
  · obtain ⟨hD, na, ha, e, ys, hy, iy⟩ := p
    exact q Dl ys H' hD e hy iy
end
/-! ### what a map tells -/
def newsM (f : MF) : List News := (hsL f).filterMap fun i : Nat => f (i : Int)
theorem hsL_get {f : MF} {i j : Nat} (h : (hsL f)[i]? = some j) : ∃ N, f (j : Int) = some N := by
  have := List.mem_of_getElem? h
  unfold hsL at this
  rw [List.mem_filter] at this
  exact Option.isSome_iff_exists.mp this.2
theorem newsM_eq (f : MF) (z : PyData) : ∀ hs : List Nat, (∀ i ∈ hs, (f (i : Int)).isSome = true) → (List.range hs.length).map (fun i => ((f ((hs.getD i 0 : Nat) : Int)).map News.data).getD z) = (hs.filterMap fun i : Nat => f (i : Int)).map News.data := fun hs hh => by
  rw [range_getD (fun n : Nat => ((f (n : Int)).map News.data).getD z)]
  induction hs with
  | nil => rfl
  | cons a hs ih =>
    obtain ⟨N, e⟩ := Option.isSome_iff_exists.mp (hh a List.mem_cons_self)
    rw [List.map_cons, ih fun i hi => hh i (List.mem_cons_of_mem _ hi), List.filterMap_cons, e]
    rfl
def RetIL (K : PySem.W.Frag) (ds : List PyData) (H : Hp) (Q : VK) : Prop := ∀ p xs H1, H p = none → Ex H H1 → H1 p = some (.lst xs) → ImAll K H1 xs ds → Q (.ref p) H1
def sp_Map_news (K : PySem.W.Frag) : Sp := fun vs H Q _ => ∃ (p d : Addr) (kvs : List (Key × V)) (ks : List Int) (f : MF), vs = [.ref p] ∧ MapAt K H p d kvs ks f ∧ RetIL K ((newsM f).map News.data) H Q
/-- Map.news -/
def t_Map_news (K : PySem.W.Frag) : TS :=
    (tRet (tLc (iList K (tCB (rSortedI K) (tCons (tCB rListD (tCons (tFld K (tVar 0) "kept_news") tNil)) tNil))) (gName 1) tYes (tDGet (tFld K (tVar 0) "kept_news") (tVar 1)) [1]))
theorem pure_Map_news (T : Wd K mg) (vs : List V) (H : Hp) (Q : VK) (E : XK) (h : sp_Map_news K vs H Q E) : t_Map_news K { nx := fun _ H' => Q .non H', rt := Q } (start ["self", "house"] vs) H := by
  obtain ⟨p, d, kvs, ks, f, rfl, M, k⟩ := h
  have hh : ∀ i ∈ hsL f, (f (i : Int)).isSome = true := fun i hi => by
    unfold hsL at hi
    rw [List.mem_filter] at hi
    exact hi.2
  have e := newsM_eq f .none (hsL f) hh
  refine s_retIL (K := K) (ds := (newsM f).map News.data) ?_ fun p xs H1 hp e1 h1 i1 => k p xs H1 hp e1 h1 i1
  have q := eil_lcN (K := K) (σ := [some (.ref p), none]) (H := H) (g := gName 1) (vs := [1]) (te := tDGet (tFld K (tVar 0) "kept_news") (tVar 1)) (fun i => ((f (((hsL f).getD i 0 : Nat) : Int)).map News.data).getD .none) (el_houses (i := 0) T M rfl) (by rw [List.length_map, List.length_map]; exact Nat.le_trans (hsL_len f) (by decide)) fun i x H' hx e P hP => ?_
  · rw [List.length_map, List.length_map, e] at q
    exact q
  · rw [List.getElem?_map, List.getElem?_map] at hx
    cases hj : (hsL f)[i]? with
    | none => rw [hj] at hx; cases hx
    | some j =>
      rw [hj] at hx
      cases hx
      obtain ⟨N, eN⟩ := hsL_get hj
      refine hP _ rfl ?_
      rw [List.getD_eq_getElem?_getD, hj]
      show EvI K _ _ _ (((f (j : Int)).map News.data).getD .none)
      rw [eN]
      exact evi_keptAt T (M.ex e) rfl (ev_var rfl) eN
section
variable {P : Program} {w : World} {K : PySem.W.Frag} {mg : Str → Option Value} {base : Heap}
theorem sc_Map_news : FnScope ["self", "house"] ["self"] (defScope s_Map_news) := ⟨rfl, rfl, rfl, by decide +kernel, rfl, by decide +kernel, by decide +kernel⟩
theorem dr_Map_news (T : Wd K mg) {f : Addr} {cdv : Value} {A : Around} {outer : List Env} {s : Shared} {H : Hp} {E : XK} (hr : Room 0 (A.deeper (envOfC "Map.news" (defScope s_Map_news) s.heap.objs.size f cdv))) :
    PSs (cxOf CX0 P w K mg base ["self", "house"] "Map.news" (defScope s_Map_news) f cdv A outer s H E).nox (defBody s_Map_news) (t_Map_news K) := by
  have nd := sc_Map_news.nd
  exact (pss_one (ps_ret (pe_lc (own := [("house", 1)]) (g := (gName 1)) (tt := tYes) rfl nd (pi_list (pe_callB cr_sortedI (by rfl) (T.free 104) (by decide +kernel) (pa_cons (pe_callTy (call_list_dK rfl) (by rfl) (T.free 98) (by decide +kernel) (pa_cons (pe_fld (pv 0) rfl) pa_nil)) pa_nil))) (blkOk_by (by kernel_rfl)) (fun _ _ _ _ _ => (pg_name (i := 1) nd rfl (by first | exact Or.inl rfl | exact Or.inr rfl))) (fun _ _ _ _ _ => pts_nil) (fun _ _ _ _ _ => (pe_dget (hu_of hr) (pe_fld (pv 0) rfl) (pv 1) (fun _ _ => rfl))))))
theorem ok_Map_news (T : Wd K mg) {f : Addr} {fd : FuncData} (F : FunD K ds_Map_news.name ds_Map_news.qual ds_Map_news.params ds_Map_news.body ds_Map_news.scope [] [] f fd) : FnOk P w K mg base CX0 1 f fd ["self"] (sp_Map_news K) := by
  refine FunD.ok F sc_Map_news (fun vs H Q E h => ?_) (fun cdv A outer s H vs Q E hr h => ⟨t_Map_news K, PSs.nox (dr_Map_news T  hr), pure_Map_news T vs H Q E h⟩)
  obtain ⟨_, _, _, _, _, e, _⟩ := h
  rw [e]
  all_goals rfl
end
def backM (f : MF) (house other x y : Int) : Option Int := match f other with
  | none => none
  | some N => (N.near.find? fun t => decide (t.1 = house ∧ t.2.2.1 = x ∧ t.2.2.2 = y)).map (·.2.1)
def optV : Option Int → V
  | none => .non
  | some i => .int i
def sp_Map_told_back (K : PySem.W.Frag) : Sp := fun vs H Q _ => ∃ (p d q : Addr) (kvs : List (Key × V)) (ks : List Int) (f : MF) (house other x y : Int), vs = [.ref p, .int house, .int other, .ref q] ∧ MapAt K H p d kvs ks f ∧ SqT K H q [.int x, .int y] ∧ RetV (optV (backM f house other x y)) H Q
/-- Map.told_back -/
def t_Map_told_back (K : PySem.W.Frag) : TS :=
    (tSeq (tIfS (tB (tDIn (tVar 2) (tFld K (tVar 0) "kept_news"))) (tFor (iTup K (tOp (rIxT K) (tDGet (tFld K (tVar 0) "kept_news") (tVar 2)) (tC (.int 2)))) (gTup K 3 (gCons (gName 4) (gCons (gName 5) (gCons (gName 6) gNil))))
    (tIfS (tAnd (tTest (tOp rEq (tVar 4) (tVar 1))) (tTest (tOp (rEqD K) (tVar 6) (tVar 3)))) (tRet (tVar 5)) tNext)) tNext)
    (tRet (tC .non)))
theorem pure_Map_told_back (T : Wd K mg) (vs : List V) (H : Hp) (Q : VK) (E : XK) (h : sp_Map_told_back K vs H Q E) : t_Map_told_back K { nx := fun _ H' => Q .non H', rt := Q } (start ["self", "house", "other", "pair", "back", "quiet", "told"] vs) H := by
  obtain ⟨p, d, q, kvs, ks, f, house, other, x, y, rfl, M, hq, k⟩ := h
  cases e : f other with
  | none =>
    have eb : backM f house other x y = none := by unfold backM; rw [e]
    rw [eb] at k
    refine q_when (b := false) (et_is (et_din (k := Sum.inl other) (ev_var rfl) (ev_kept T M rfl) M.dict) (by rw [M.some_, e]; rfl)) (fun h => nomatch h) fun _ H1 e1 => ?_
    exact s_ret ev_c fun H2 e2 => k H2 (e1.trans e2)
  | some N =>
    obtain ⟨w, hw, iw⟩ := M.get e
    obtain ⟨pn, a, b, xs, rfl, hp, ha, ia, hb⟩ := news_inv iw
    have eb : backM f house other x y = (N.near.find? fun t => decide (t.1 = house ∧ t.2.2.1 = x ∧ t.2.2.2 = y)).map (·.2.1) := by unfold backM; rw [e]
    have xl : xs.length = N.near.length := by rw [ia.length, List.length_map]
    refine q_when (b := true) (et_is (et_din (k := Sum.inl other) (ev_var rfl) (ev_kept T M rfl) M.dict) (by rw [M.some_, e]; rfl)) (fun _ H1 e1 => ?_) (fun h => nomatch h)
    refine s_forT (ev_op (ev_dget (k := Sum.inl other) (ev_kept T (M.ex e1) rfl) (ev_var rfl) (M.ex e1).dict hw) ev_c (rv_ixT (ex_t e1 hp) (at_nat (by decide) rfl))) (ex_t e1 ha) (fun i σ' H' => Ex H H' ∧ (∃ o1 o2 o3, σ' = [some (.ref p), some (.int house), some (.int other), some (.ref q), o1, o2, o3]) ∧ ∀ t ∈ N.near.take i, ¬ (t.1 = house ∧ t.2.2.1 = x ∧ t.2.2.2 = y))
      (fun H2 e2 => ⟨e1.trans e2, ⟨none, none, none, rfl⟩, by simp⟩) (fun i σ' H' _ p => ex_t p.1 ha) ?_ ?_
    · rintro i v σ' H' hv ⟨e2, ⟨o1, o2, o3, rfl⟩, no⟩
      obtain ⟨dd, hdd, iv⟩ := ia.get hv
      rw [List.getElem?_map, Option.map_eq_some_iff] at hdd
      obtain ⟨t, ht, rfl⟩ := hdd
      obtain ⟨ta, tb, rfl, hta, htb⟩ := near_inv (Im.ex e2 iv)
      refine ⟨ta, _, rfl, hta, rfl, _, _, rfl, _, _, rfl, _, _, rfl, rfl, ?_⟩
      refine s_when (b := decide (t.1 = house ∧ t.2.2.1 = x ∧ t.2.2.2 = y)) (et_is (et_and (et_test (ev_op (ev_var rfl) (ev_var rfl) (rv_eq rfl))) fun _ => et_test (ev_op (ev_var rfl) (ev_var rfl) (rv_eqD (dp_tints (ns := [t.2.2.1, t.2.2.2]) htb) (dp_tints (ns := [x, y]) (ex_t e2 hq)) (shaped_tints _) (shaped_tints _)))) (by rw [eqv_tints]; simp)) (fun hb H3 e3 => ?_) fun hb H3 e3 => ?_
      · refine s_ret (ev_var rfl) fun H4 e4 => ?_
        have hb := of_decide_eq_true hb
        have : backM f house other x y = some t.2.1 := by
          rw [eb]
          have hsp : N.near = N.near.take i ++ t :: N.near.drop (i + 1) := by
            have hil := (List.getElem?_eq_some_iff.mp ht).1
            rw [show t = N.near[i] from (Option.some.inj ((List.getElem?_eq_getElem hil).symm.trans ht)).symm, ← List.drop_eq_getElem_cons hil, List.take_append_drop]
          rw [hsp, List.find?_append, List.find?_eq_none.mpr (fun u hu => by simpa using no u hu), List.find?_cons_of_pos (by simpa using hb)]
          rfl
        rw [this] at k
        exact k H4 ((e2.trans e3).trans e4)
      · refine ⟨e2.trans e3, ⟨_, _, _, rfl⟩, fun u hu => ?_⟩
        rw [take_snoc ht, List.mem_append, List.mem_singleton] at hu
        rcases hu with hu | rfl
        · exact no u hu
        · exact of_decide_eq_false hb
    · rintro σ' H' ⟨e2, ⟨o1, o2, o3, rfl⟩, no⟩
      rw [xl, List.take_length] at no
      have : backM f house other x y = none := by
        rw [eb, List.find?_eq_none.mpr (fun u hu => by simpa using no u hu)]
        rfl
      rw [this] at k
      dsimp only
      exact s_ret ev_c fun H4 e4 => k H4 (e2.trans e4)
section
variable {P : Program} {w : World} {K : PySem.W.Frag} {mg : Str → Option Value} {base : Heap}
theorem sc_Map_told_back : FnScope ["self", "house", "other", "pair", "back", "quiet", "told"] ["self", "house", "other", "pair"] (defScope s_Map_told_back) := ⟨rfl, rfl, rfl, by decide +kernel, rfl, by decide +kernel, by decide +kernel⟩
theorem dr_Map_told_back (T : Wd K mg) {f : Addr} {cdv : Value} {A : Around} {outer : List Env} {s : Shared} {H : Hp} {E : XK} (hr : Room 0 (A.deeper (envOfC "Map.told_back" (defScope s_Map_told_back) s.heap.objs.size f cdv))) :
    PSs (cxOf CX0 P w K mg base ["self", "house", "other", "pair", "back", "quiet", "told"] "Map.told_back" (defScope s_Map_told_back) f cdv A outer s H E).nox (defBody s_Map_told_back) (t_Map_told_back K) := by
  have nd := sc_Map_told_back.nd
  exact (pss_cons (ps_if (pt_cmp (pc_din (hu_of hr) (pv 2) (pe_fld (pv 0) rfl))) (pss_one (ps_for PassesOwn.never rfl (pi_tup (pe_ix ix_tup (pe_dget (hu_of hr) (pe_fld (pv 0) rfl) (pv 2) (fun _ _ => rfl)) pe_int (fun _ _ => rfl))) (pg_tup rfl (pgs_cons (pg_name (i := 4) nd rfl (by first | exact Or.inl rfl | exact Or.inr rfl)) (pgs_cons (pg_name (i := 5) nd rfl (by first | exact Or.inl rfl | exact Or.inr rfl)) (pgs_cons (pg_name (i := 6) nd rfl (by first | exact Or.inl rfl | exact Or.inr rfl)) pgs_nil))))
    (pss_one (ps_if (PW.pt (pw_and (pt_cmpR op_eq (pv 4) (pv 1) (nomark _)) (pw_and1 (pt_cmpR (op_eqD hr.units) (pv 6) (pv 3) (nomark _))))) (pss_one (ps_ret (pv 5))) pss_nil)))) pss_nil)
    (pss_one (ps_ret pe_non)))
theorem ok_Map_told_back (T : Wd K mg) {f : Addr} {fd : FuncData} (F : FunD K ds_Map_told_back.name ds_Map_told_back.qual ds_Map_told_back.params ds_Map_told_back.body ds_Map_told_back.scope [] [] f fd) : FnOk P w K mg base CX0 1 f fd ["self", "house", "other", "pair"] (sp_Map_told_back K) := by
  refine FunD.ok F sc_Map_told_back (fun vs H Q E h => ?_) (fun cdv A outer s H vs Q E hr h => ⟨t_Map_told_back K, PSs.nox (dr_Map_told_back T  hr), pure_Map_told_back T vs H Q E h⟩)
  obtain ⟨_, _, _, _, _, _, _, _, _, _, e, _⟩ := h
  rw [e]
  all_goals rfl
end
abbrev Wire : Type := Int × Int × Int
def wireD (w : Wire) : PyData := .tuple [.int w.1, .int w.2.1, .int w.2.2]
def wireOf (f : MF) (h : Int) (t : Near) : Option Wire := match backM f h t.1 t.2.2.1 t.2.2.2 with
  | none => none
  | some q => if h < t.1 then some (h, t.1, if q > t.2.1 then q else t.2.1) else none
def wiresAt (f : MF) (i : Nat) : List Wire := match f (i : Int) with
  | none => []
  | some N => N.near.filterMap (wireOf f i)
def wiresM (f : MF) : List Wire := (hsL f).flatMap (wiresAt f)
def sp_Map_wires (K : PySem.W.Frag) : Sp := fun vs H Q _ => ∃ (p d : Addr) (kvs : List (Key × V)) (ks : List Int) (f : MF), vs = [.ref p] ∧ MapAt K H p d kvs ks f ∧ RetIL K ((wiresM f).map wireD) H Q
/-- Map.wires -/
def t_Map_wires (K : PySem.W.Frag) : TS :=
    (tSeq (tAsg (tLst tNil) (gName 1))
    (tSeq (tFor (iList K (tCB (rSortedI K) (tCons (tCB rListD (tCons (tFld K (tVar 0) "kept_news") tNil)) tNil))) (gName 2)
    (tFor (iTup K (tOp (rIxT K) (tDGet (tFld K (tVar 0) "kept_news") (tVar 2)) (tC (.int 2)))) (gTup K 3 (gCons (gName 3) (gCons (gName 4) (gCons (gName 5) gNil))))
    (tSeq (tAsg (tMeth (He.ga K "Map") "told_back" (sp_Map_told_back K) [] C8.E0 (tVar 0) (tCons (tVar 2) (tCons (tVar 3) (tCons (tVar 5) tNil)))) (gName 6))
    (tIfS (tAnd (tTest (tOp rLtI (tVar 2) (tVar 3))) (tTest (tOp rNotN (tVar 6) (tC .non)))) (tDrop (tBM K "list" rAppend (tVar 1) (tCons (tTup (tCons (tVar 2) (tCons (tVar 3) (tCons (tCB Evl.rMax2 (tCons (tVar 4) (tCons (tVar 6) tNil))) tNil)))) tNil))) tNext))))
    (tRet (tVar 1))))
theorem wiresAt_len {f : MF} (i : Nat) (h : ∀ N, f (i : Int) = some N → N.Ok) : (wiresAt f i).length ≤ 5 := by
  unfold wiresAt
  split
  · exact Nat.zero_le _
  · rename_i N e
    exact Nat.le_trans (List.length_filterMap_le _ _) (h N e).near.len
theorem wires_len {f : MF} (h : ∀ (i : Int) N, f i = some N → N.Ok) : ∀ hs : List Nat, (hs.flatMap (wiresAt f)).length ≤ 5 * hs.length
  | [] => by simp
  | a :: hs => by
    have := wires_len h hs
    have := wiresAt_len (f := f) a (h a)
    rw [List.flatMap_cons, List.length_append, List.length_cons]
    omega
theorem pure_Map_wires (T : Wd K mg) (vs : List V) (H : Hp) (Q : VK) (E : XK) (h : sp_Map_wires K vs H Q E) : t_Map_wires K { nx := fun _ H' => Q .non H', rt := Q } (start ["self", "found", "house", "other", "quiet", "pair", "back"] vs) H := by
  obtain ⟨p, d, kvs, ks, f, rfl, M, k⟩ := h
  have fok : ∀ (i : Int) N, f i = some N → N.Ok := fun i N e => (M.yes i N e).2.1
  refine q_asgL (xs := []) (el_lst ea_nil (Nat.zero_le _)) fun l H1 hl e1 h1 => ?_
  refine q_forNLn (el_houses T (M.ex e1) rfl) (fun a i σ' H' => Ex H H' ∧ H' a = some (.lst (((hsL f).map fun i : Nat => (i : Int)).map V.int)) ∧ a ≠ l ∧ (∃ o1 o2 o3 o4 o5, σ' = [some (.ref p), some (.ref l), o1, o2, o3, o4, o5]) ∧ ∃ xs, H' l = some (.lst xs) ∧ ImAll K H' xs ((((hsL f).take i).flatMap (wiresAt f)).map wireD))
    (fun a H2 ha e2 h2 => ⟨e1.trans e2, h2, (ne_of_none h1 ha).symm, ⟨none, none, none, none, none, rfl⟩, [], e2 _ _ h1, .nil⟩) (fun a i σ' H' _ q => sq_of q.2.1) ?_ ?_
  · rintro a i x σ' H' hx ⟨e, ha, nal, ⟨o1, o2, o3, o4, o5, rfl⟩, xs, hx', ix⟩
    rw [List.getElem?_map, List.getElem?_map] at hx
    cases hj : (hsL f)[i]? with
    | none => rw [hj] at hx; cases hx
    | some j =>
      rw [hj] at hx
      cases hx
      obtain ⟨N, eN⟩ := hsL_get hj
      obtain ⟨w, hw, iw⟩ := M.get eN
      obtain ⟨pn, b, c, ns, rfl, hpn, hb, ib, hc⟩ := news_inv iw
      have wl : wiresAt f j = N.near.filterMap (wireOf f j) := by unfold wiresAt; rw [eN]
      have nl : ns.length = N.near.length := by rw [ib.length, List.length_map]
      have ilen := (List.getElem?_eq_some_iff.mp hj).1
      have hl32 := hsL_len f
      have pl := wires_len fok ((hsL f).take i)
      rw [List.length_take] at pl
      have N5 := (fok _ _ eN).near.len
      refine s_forT (ev_op (ev_dget (k := Sum.inl (j : Int)) (ev_kept T (M.ex e) rfl) (ev_var rfl) (M.ex e).dict hw) ev_c (rv_ixT (ex_t e hpn) (at_nat (by decide) rfl))) (ex_t e hb) (fun u σ' H' => Ex H H' ∧ H' a = some (.lst (((hsL f).map fun i : Nat => (i : Int)).map V.int)) ∧ (∃ o2 o3 o4 o5, σ' = [some (.ref p), some (.ref l), some (.int (j : Int)), o2, o3, o4, o5]) ∧ ∃ xs, H' l = some (.lst xs) ∧ ImAll K H' xs ((((hsL f).take i).flatMap (wiresAt f) ++ (N.near.take u).filterMap (wireOf f j)).map wireD))
        (fun H2 e2 => ⟨e.trans e2, e2 _ _ ha, ⟨o2, o3, o4, o5, rfl⟩, xs, e2 _ _ hx', by rw [List.take_zero, List.filterMap_nil, List.append_nil]; exact ImAll.ex e2 ix⟩) (fun u σ' H' _ q => ex_t q.1 hb) ?_ ?_
      · rintro u v σ' H2 hv ⟨e2, ha2, ⟨o2, o3, o4, o5, rfl⟩, xs, hxs, ixs⟩
        obtain ⟨dd, hdd, iv⟩ := ib.get hv
        rw [List.getElem?_map, Option.map_eq_some_iff] at hdd
        obtain ⟨t, ht, rfl⟩ := hdd
        obtain ⟨ta, tb, rfl, hta, htb⟩ := near_inv (Im.ex e2 iv)
        have fl : ((N.near.take u).filterMap (wireOf f j)).length ≤ 5 := Nat.le_trans (List.length_filterMap_le _ _) (by rw [List.length_take]; omega)
        have xsl : xs.length ≤ 1000 := by
          rw [ixs.length, List.length_map, List.length_append]
          omega
        refine ⟨ta, _, rfl, hta, rfl, _, _, rfl, _, _, rfl, _, _, rfl, rfl, ?_⟩
        dsimp only
        refine q_asg (v := optV (backM f j t.1 t.2.2.1 t.2.2.2)) (fun H3 e3 Q3 q3 => ?_) fun H3 e3 => ?_
        · have M3 := M.ex (e2.trans e3)
          obtain ⟨dx, hp3⟩ := M3.ins
          exact ⟨.ref p, rfl, p, dx, _, rfl, hp3, rfl, _, rfl, _, rfl, _, rfl, p, d, tb, kvs, ks, f, (j : Int), t.1, t.2.2.1, t.2.2.2, rfl, M3, ex_t e3 htb, fun H4 e4 => q3 H4 e4⟩
        · have wo : ∀ b, wireOf f j t = b → (N.near.take (u + 1)).filterMap (wireOf f j) = (N.near.take u).filterMap (wireOf f j) ++ b.toList := fun b hb => by
            rw [take_snoc ht, List.filterMap_append, List.filterMap_cons, hb]
            cases b <;> rfl
          have nob : wireOf f j t = none → ∀ H4, Ex H3 H4 → ∃ xs, H4 l = some (.lst xs) ∧ ImAll K H4 xs ((((hsL f).take i).flatMap (wiresAt f) ++ (N.near.take (u + 1)).filterMap (wireOf f j)).map wireD) := fun hn H4 e4 => ⟨xs, (e3.trans e4) _ _ hxs, by
            rw [wo none hn, Option.toList_none, List.append_nil]
            exact ImAll.ex (e3.trans e4) ixs⟩
          cases eb : backM f j t.1 t.2.2.1 t.2.2.2 with
          | none =>
            have hn : wireOf f j t = none := by unfold wireOf; rw [eb]
            refine s_when (b := false) (et_is (et_and (et_test (ev_op (ev_var rfl) (ev_var rfl) rv_I0)) fun _ => et_is (et_test (ev_notN (x := .non) (ev_var rfl))) (b := false) (by simp)) (by simp)) (fun h => nomatch h) fun _ H4 e4 => ?_
            exact ⟨(e2.trans e3).trans e4, (e3.trans e4) _ _ ha2, ⟨_, _, _, _, rfl⟩, nob hn H4 e4⟩
          | some q =>
            refine s_when (b := decide ((j : Int) < t.1)) (et_is (et_and (et_test (ev_op (ev_var rfl) (ev_var rfl) rv_I0)) fun _ => et_is (et_test (ev_notN (x := .int q) (ev_var rfl))) (b := true) (by simp)) (by simp)) (fun hb H4 e4 => ?_) fun hb H4 e4 => ?_
            · have hn : wireOf f j t = some ((j : Int), t.1, if q > t.2.1 then q else t.2.1) := by unfold wireOf; rw [eb]; simp only []; rw [if_pos (of_decide_eq_true hb)]
              refine ⟨_, rfl, .inl ⟨rfl, xs, sq_of ((e3.trans e4) _ _ hxs)⟩, ?_⟩
              refine evi_tup (K := K) (ds := [.int (j : Int), .int t.1, .int (if q > t.2.1 then q else t.2.1)]) (evi_cons (evi_int (ev_var rfl)) (evi_cons (evi_int (ev_var rfl)) (evi_cons (evi_int (ev_max2 (ev_var rfl) (ev_var rfl))) evi_nil))) (Nat.le_of_ble_eq_true rfl) H4 (Ex.refl H4) _ fun v H5 e5 i5 => ?_
              have hx5 := ((e3.trans e4).trans e5) _ _ hxs
              refine ⟨l, xs, v, rfl, rfl, hx5, sz_lt (by omega), ?_⟩
              have e25 := ((e2.trans e3).trans e4).trans e5
              refine ⟨Ex.mut e25 hl, by rw [upd_ne nal]; exact ((e3.trans e4).trans e5) _ _ ha2, ⟨_, _, _, _, rfl⟩, _, upd_same, ?_⟩
              rw [wo _ hn, ← List.append_assoc, List.map_append]
              exact ImAll.tx (Tx.updL hx5) _ _ ((ImAll.ex ((e3.trans e4).trans e5) ixs).app (.cons i5 .nil))
            · have hn : wireOf f j t = none := by unfold wireOf; rw [eb]; simp only []; rw [if_neg (of_decide_eq_false hb)]
              exact ⟨(e2.trans e3).trans e4, (e3.trans e4) _ _ ha2, ⟨_, _, _, _, rfl⟩, nob hn H4 e4⟩
      · rintro σ' H2 ⟨e2, ha2, ⟨o2, o3, o4, o5, rfl⟩, xs, hxs, ixs⟩
        refine ⟨e2, ha2, nal, ⟨_, _, _, _, _, rfl⟩, xs, hxs, ?_⟩
        rw [nl, List.take_length, ← wl] at ixs
        rw [take_snoc hj, List.flatMap_append, List.flatMap_cons, List.flatMap_nil, List.append_nil]
        exact ixs
  · rintro a σ' H' ⟨e, ha, nal, ⟨o1, o2, o3, o4, o5, rfl⟩, xs, hx', ix⟩
    rw [List.length_map, List.length_map, List.take_length] at ix
    exact s_ret (ev_var rfl) fun H2 e2 => k l xs H2 hl (e.trans e2) (e2 _ _ hx') (ImAll.ex e2 ix)
section
variable {P : Program} {w : World} {K : PySem.W.Frag} {mg : Str → Option Value} {base : Heap}
theorem sc_Map_wires : FnScope ["self", "found", "house", "other", "quiet", "pair", "back"] ["self"] (defScope s_Map_wires) := ⟨rfl, rfl, rfl, by decide +kernel, rfl, by decide +kernel, by decide +kernel⟩
theorem dr_Map_wires (T : Wd K mg) (c_Map_told_back : Met P w K mg base 1 (He.ga K "Map") "told_back" (sp_Map_told_back K) []) {f : Addr} {cdv : Value} {A : Around} {outer : List Env} {s : Shared} {H : Hp} {E : XK} (hr : Room 1 (A.deeper (envOfC "Map.wires" (defScope s_Map_wires) s.heap.objs.size f cdv))) :
    PSs (cxOf CX0 P w K mg base ["self", "found", "house", "other", "quiet", "pair", "back"] "Map.wires" (defScope s_Map_wires) f cdv A outer s H E).nox (defBody s_Map_wires) (t_Map_wires K) := by
  have nd := sc_Map_wires.nd
  exact (pss_cons (ps_set (i := 1) nd rfl (by first | exact Or.inl rfl | exact Or.inr rfl) (pe_lst pa_nil))
    (pss_cons (ps_for PassesOwn.never rfl (pi_list (pe_callB cr_sortedI (by rfl) (T.free 104) (by decide +kernel) (pa_cons (pe_callTy (call_list_dK rfl) (by rfl) (T.free 98) (by decide +kernel) (pa_cons (pe_fld (pv 0) rfl) pa_nil)) pa_nil))) (pg_name (i := 2) nd rfl (by first | exact Or.inl rfl | exact Or.inr rfl))
    (pss_one (ps_for PassesOwn.never rfl (pi_tup (pe_ix ix_tup (pe_dget (hu_of hr) (pe_fld (pv 0) rfl) (pv 2) (fun _ _ => rfl)) pe_int (fun _ _ => rfl))) (pg_tup rfl (pgs_cons (pg_name (i := 3) nd rfl (by first | exact Or.inl rfl | exact Or.inr rfl)) (pgs_cons (pg_name (i := 4) nd rfl (by first | exact Or.inl rfl | exact Or.inr rfl)) (pgs_cons (pg_name (i := 5) nd rfl (by first | exact Or.inl rfl | exact Or.inr rfl)) pgs_nil))))
    (pss_cons (ps_set (i := 6) nd rfl (by first | exact Or.inl rfl | exact Or.inr rfl) (pe_mt c_Map_told_back hr (by decide) (pv 0) (pa_cons (pv 2) (pa_cons (pv 3) (pa_cons (pv 5) pa_nil)))))
    (pss_one (ps_if (PW.pt (pw_and (pt_cmpR op_lt (pv 2) (pv 3) (nomark _)) (pw_and1 (pt_cmpR op_notN1 (pv 6) pe_non (nomark _))))) (pss_one (ps_expr (pe_bm PySem.F.plainAttrs_list PySem.F.slot_list_append PySem.F.type_list_append mt_append (pv 1) (pa_cons (pe_tup (pa_cons (pv 2) (pa_cons (pv 3) (pa_cons (pe_callB (call_max2 rfl) (by rfl) (T.free 99) (by decide +kernel) (pa_cons (pv 4) (pa_cons (pv 6) pa_nil))) pa_nil)))) pa_nil)))) pss_nil))))))
    (pss_one (ps_ret (pv 1)))))
theorem ok_Map_wires (T : Wd K mg) (c_Map_told_back : Met P w K mg base 1 (He.ga K "Map") "told_back" (sp_Map_told_back K) []) {f : Addr} {fd : FuncData} (F : FunD K ds_Map_wires.name ds_Map_wires.qual ds_Map_wires.params ds_Map_wires.body ds_Map_wires.scope [] [] f fd) : FnOk P w K mg base CX0 2 f fd ["self"] (sp_Map_wires K) := by
  refine FunD.ok F sc_Map_wires (fun vs H Q E h => ?_) (fun cdv A outer s H vs Q E hr h => ⟨t_Map_wires K, PSs.nox (dr_Map_wires T c_Map_told_back hr), pure_Map_wires T vs H Q E h⟩)
  obtain ⟨_, _, _, _, _, e, _⟩ := h
  rw [e]
  all_goals rfl
end
end

end K85
end
section
set_option maxHeartbeats 400000
namespace K85
open PySem PySem.Spec PyProof.Rows
open L2 hiding CX0 E0 pass0
open C8 Evl
/-! ### tactics -/
local macro_rules | `(tactic| walk_at "side") => `(tactic| first | omega | assumption | rfl | decide)
local macro_rules | `(tactic| walk_at "at") => `(tactic| first | (refine at_int ?_ ?_ <;> first | omega | (simp; omega)) | assumption)
local macro_rules | `(tactic| walk_at "rv") => `(tactic| first
  | with_reducible exact rv_I0
  | ((with_reducible apply rv_eq); rfl)
  | ((with_reducible apply rv_ne); rfl)
  | ((with_reducible apply rv_mod); first | omega | decide)
  | ((with_reducible apply rv_mul); omega)
  | ((with_reducible apply rv_div); omega)
  | ((with_reducible apply rv_ixL); · assumption
     · walk_at "at")
  | ((with_reducible apply rv_ixT); · assumption
     · walk_at "at"))
local macro_rules | `(tactic| walk_at "ev") => `(tactic| first
  | ((with_reducible apply ev_var); rfl)
  | with_reducible exact ev_c
  | ((with_reducible apply ev_isN); walk_at "ev")
  | ((with_reducible apply ev_notN); walk_at "ev")
  | ((with_reducible apply ev_op); · walk_at "ev"
     · walk_at "ev"
     · walk_at "rv")
  | ((with_reducible apply ev_un); · walk_at "ev"
     · with_reducible exact ru_neg)
  | ((with_reducible apply ev_chain); · walk_at "ev"
     · walk_at "ev"
     · walk_at "rv"
     · intro _; walk_at "ev"
     · intro _; walk_at "rv")
  | ((with_reducible apply ev_len); · walk_at "ev"
     · assumption)
  | ((with_reducible apply ev_lenT); · walk_at "ev"
     · assumption)
  | ((with_reducible apply ev_andV); · walk_at "ev"
     · intro _; walk_at "ev")
  | with_reducible assumption)
local macro_rules | `(tactic| walk_at "evt") => `(tactic| first
  | ((with_reducible apply et_or); · walk_at "evt"
     · intro _; walk_at "evt")
  | ((with_reducible apply et_and); · walk_at "evt"
     · intro _; walk_at "evt")
  | ((with_reducible apply et_not); walk_at "evt")
  | ((with_reducible apply et_test); walk_at "ev")
  | ((with_reducible apply et_B); walk_at "ev")
  | with_reducible assumption)
local macro_rules | `(tactic| walk_at "bool") => `(tactic| first | rfl | (simp; done) | (simp; omega) | (simp; intros; omega) | grind)
section
variable {K : PySem.W.Frag} {mg : Str → Option Value}
theorem flat_strs : ∀ (ns : List Str), (ns.map V.str).all flatV = true
  | [] => rfl
  | _ :: ns => by
    rw [List.map_cons, List.all_cons, flat_strs ns]
    rfl
theorem in_strs (z : Str) : ∀ (ns : List Str), inV (.str z) (ns.map V.str) = decide (z ∈ ns)
  | [] => rfl
  | n :: ns => by
    show (eqV (.str n) (.str z) || inV (.str z) (ns.map V.str)) = _
    rw [in_strs z ns]
    have e : eqV (.str n) (.str z) = decide (z = n) := by
      show (n == z) = _
      by_cases h : n = z
      · subst h
        simp
      · rw [decide_eq_false (fun q => h q.symm)]
        exact beq_eq_false_iff_ne.mpr h
    rw [e]
    simp
def holdsB (f : MF) (name : Str) (i : Nat) : Bool := match f (i : Int) with
  | none => false
  | some N => decide (name ∈ N.names)
def holderM (f : MF) (name : Str) : Option Int := ((hsL f).find? (holdsB f name)).map fun i : Nat => (i : Int)
def sp_Map_holder (K : PySem.W.Frag) : Sp := fun vs H Q _ => ∃ (p d : Addr) (kvs : List (Key × V)) (ks : List Int) (f : MF) (name : Str), vs = [.ref p, .str name] ∧ MapAt K H p d kvs ks f ∧ RetV (optV (holderM f name)) H Q
/-- Map.holder -/
def t_Map_holder (K : PySem.W.Frag) : TS :=
    (tSeq (tFor (iList K (tCB (rSortedI K) (tCons (tCB rListD (tCons (tFld K (tVar 0) "kept_news") tNil)) tNil))) (gName 2)
    (tIfS (tTest (tOp (rIn K false) (tVar 1) (tOp (rIxT K) (tDGet (tFld K (tVar 0) "kept_news") (tVar 2)) (tC (.int 3))))) (tRet (tVar 2)) tNext))
    (tRet (tC .non)))
theorem pure_Map_holder (T : Wd K mg) (vs : List V) (H : Hp) (Q : VK) (E : XK) (h : sp_Map_holder K vs H Q E) : t_Map_holder K { nx := fun _ H' => Q .non H', rt := Q } (start ["self", "name", "house"] vs) H := by
  obtain ⟨p, d, kvs, ks, f, name, rfl, M, k⟩ := h
  refine q_forNLn (el_houses T M rfl) (fun a i σ' H' => Ex H H' ∧ H' a = some (.lst (((hsL f).map fun i : Nat => (i : Int)).map V.int)) ∧ (∃ o, σ' = [some (.ref p), some (.str name), o]) ∧ ∀ j ∈ (hsL f).take i, ¬ holdsB f name j = true)
    (fun a H2 ha e2 h2 => ⟨e2, h2, ⟨none, rfl⟩, by simp⟩) (fun a i σ' H' _ q => sq_of q.2.1) ?_ ?_
  · rintro a i x σ' H' hx ⟨e, ha, ⟨o, rfl⟩, no⟩
    rw [List.getElem?_map, List.getElem?_map] at hx
    cases hj : (hsL f)[i]? with
    | none => rw [hj] at hx; cases hx
    | some j =>
      rw [hj] at hx
      cases hx
      obtain ⟨N, eN⟩ := hsL_get hj
      obtain ⟨w, hw, iw⟩ := M.get eN
      obtain ⟨pn, b, c, ns, rfl, hpn, hb, ib, hc⟩ := news_inv iw
      have hB : holdsB f name j = decide (name ∈ N.names) := by unfold holdsB; rw [eN]
      refine s_when (b := holdsB f name j) (et_is (et_test (ev_op (ev_var rfl) (ev_op (ev_dget (k := Sum.inl (j : Int)) (ev_kept T (M.ex e) rfl) (ev_var rfl) (M.ex e).dict hw) ev_c (rv_ixT (ex_t e hpn) (at_nat (by decide) rfl))) (rv_isT (ex_t e hc) rfl (flat_strs _)))) (by rw [in_strs, hB])) (fun hb H3 e3 => ?_) fun hb H3 e3 => ?_
      · refine s_ret (ev_var rfl) fun H4 e4 => ?_
        have : holderM f name = some (j : Int) := by
          unfold holderM
          have hsp : hsL f = (hsL f).take i ++ j :: (hsL f).drop (i + 1) := by
            have hil := (List.getElem?_eq_some_iff.mp hj).1
            rw [show j = (hsL f)[i] from (Option.some.inj ((List.getElem?_eq_getElem hil).symm.trans hj)).symm, ← List.drop_eq_getElem_cons hil, List.take_append_drop]
          rw [hsp, List.find?_append, List.find?_eq_none.mpr no, List.find?_cons_of_pos hb]
          rfl
        rw [this] at k
        exact k H4 ((e.trans e3).trans e4)
      · refine ⟨e.trans e3, e3 _ _ ha, ⟨_, rfl⟩, fun u hu => ?_⟩
        rw [take_snoc hj, List.mem_append, List.mem_singleton] at hu
        rcases hu with hu | rfl
        · exact no u hu
        · rw [hb]
          exact Bool.false_ne_true
  · rintro a σ' H' ⟨e, ha, ⟨o, rfl⟩, no⟩
    rw [List.length_map, List.length_map, List.take_length] at no
    have : holderM f name = none := by
      unfold holderM
      rw [List.find?_eq_none.mpr no]
      rfl
    rw [this] at k
    exact s_ret ev_c fun H4 e4 => k H4 (e.trans e4)
section
variable {P : Program} {w : World} {K : PySem.W.Frag} {mg : Str → Option Value} {base : Heap}
theorem sc_Map_holder : FnScope ["self", "name", "house"] ["self", "name"] (defScope s_Map_holder) := ⟨rfl, rfl, rfl, by decide +kernel, rfl, by decide +kernel, by decide +kernel⟩
theorem dr_Map_holder (T : Wd K mg) {f : Addr} {cdv : Value} {A : Around} {outer : List Env} {s : Shared} {H : Hp} {E : XK} (hr : Room 0 (A.deeper (envOfC "Map.holder" (defScope s_Map_holder) s.heap.objs.size f cdv))) :
    PSs (cxOf CX0 P w K mg base ["self", "name", "house"] "Map.holder" (defScope s_Map_holder) f cdv A outer s H E).nox (defBody s_Map_holder) (t_Map_holder K) := by
  have nd := sc_Map_holder.nd
  exact (pss_cons (ps_for PassesOwn.never rfl (pi_list (pe_callB cr_sortedI (by rfl) (T.free 104) (by decide +kernel) (pa_cons (pe_callTy (call_list_dK rfl) (by rfl) (T.free 98) (by decide +kernel) (pa_cons (pe_fld (pv 0) rfl) pa_nil)) pa_nil))) (pg_name (i := 2) nd rfl (by first | exact Or.inl rfl | exact Or.inr rfl))
    (pss_one (ps_if (pt_cmpR op_in_seq (pv 1) (pe_ix ix_tup (pe_dget (hu_of hr) (pe_fld (pv 0) rfl) (pv 2) (fun _ _ => rfl)) pe_int (fun _ _ => rfl)) (by rfl)) (pss_one (ps_ret (pv 2))) pss_nil)))
    (pss_one (ps_ret pe_non)))
theorem ok_Map_holder (T : Wd K mg) {f : Addr} {fd : FuncData} (F : FunD K ds_Map_holder.name ds_Map_holder.qual ds_Map_holder.params ds_Map_holder.body ds_Map_holder.scope [] [] f fd) : FnOk P w K mg base CX0 1 f fd ["self", "name"] (sp_Map_holder K) := by
  refine FunD.ok F sc_Map_holder (fun vs H Q E h => ?_) (fun cdv A outer s H vs Q E hr h => ⟨t_Map_holder K, PSs.nox (dr_Map_holder T  hr), pure_Map_holder T vs H Q E h⟩)
  obtain ⟨_, _, _, _, _, _, e, _⟩ := h
  rw [e]
  all_goals rfl
end
/-! the copy of an empty map -/
def sp_Map_copy (K : PySem.W.Frag) : Sp := fun vs H Q _ => ∃ (p d : Addr), vs = [.ref p] ∧ MapAt K H p d [] [] (fun _ => none) ∧ ∀ p' d' H', Ex H H' → MapAt K H' p' d' [] [] (fun _ => none) → Q (.ref p') H'
/-- Map.copy -/
def t_Map_copy (K : PySem.W.Frag) : TS :=
    (tSeq (tAsg (tMake (He.ga K "Map") (sp_Map_init K) [] C8.E0 tNil) (gName 1))
    (tSeq (tLock (tFor (iKeys (tFld K (tVar 0) "kept_news")) (gName 2)
    (tDrop (tMeth (He.ga K "Map") "hear" (sp_Map_hear K) [] C8.E0 (tVar 1) (tCons (tDGet (tFld K (tVar 0) "kept_news") (tVar 2)) tNil)))))
    (tRet (tVar 1))))
theorem pure_Map_copy (T : Wd K mg) (vs : List V) (H : Hp) (Q : VK) (E : XK) (h : sp_Map_copy K vs H Q E) : t_Map_copy K { nx := fun _ H' => Q .non H', rt := Q } (start ["self", "other", "house"] vs) H := by
  obtain ⟨p, d, rfl, M, k⟩ := h
  intro x dx hx hd nd
  have e1 : Ex H (upd (upd H dx (.own x)) x (.ins (He.ga K "Map") dx [])) := (Ex.new hd).trans (Ex.new (by rw [upd_ne nd.symm]; exact hx))
  have hx1 : (upd (upd H dx (.own x)) x (.ins (He.ga K "Map") dx [])) x = some (.ins (He.ga K "Map") dx []) := upd_same
  generalize upd (upd H dx (.own x)) x (.ins (He.ga K "Map") dx []) = H1 at *
  refine ⟨x, dx, rfl, hx1, fun d' H2 hd' b2 M2 => ⟨rfl, ?_⟩⟩
  have e2 : Ex H H2 := fun y o hy => b2 y o (fun z => by rw [List.mem_singleton.mp z, hx] at hy; cases hy) (e1 _ _ hy)
  have M3 := M.ex e2
  refine ⟨d, .dK [], M3.dict, trivial, fun od => ?_⟩
  obtain ⟨dx2, hp⟩ := M3.ins
  have npd := M3.ne
  refine ⟨_, rfl, p, _, dx2, _, _, rfl, by rw [upd_ne npd]; exact hp, cl_Map T, na_Map_kept_news T, rfl, d, od, rfl, .inl ⟨[], upd_same, ?_⟩⟩
  refine ⟨fun i m σ' H' => i = 0 ∧ σ' = [some (.ref p), some (.ref x), none] ∧ H' = upd H2 d (.frz od (.dK [])), ⟨0, rfl, rfl, rfl⟩, ?_⟩
  rintro i m σ' H' ⟨rfl, rfl, rfl⟩
  refine .inl ⟨⟨upd_same, Nat.le_refl _⟩, upd_same, ?_⟩
  have : upd (upd H2 d (.frz od (.dK []))) d (.dK []) = H2 := by
    funext y
    by_cases hy : y = d
    · rw [hy, upd_same, M3.dict]
    · rw [upd_ne hy, upd_ne hy]
  rw [this]
  exact ⟨_, rfl, k x d' H2 e2 M2⟩
section
variable {P : Program} {w : World} {K : PySem.W.Frag} {mg : Str → Option Value} {base : Heap}
theorem sc_Map_copy : FnScope ["self", "other", "house"] ["self"] (defScope s_Map_copy) := ⟨rfl, rfl, rfl, by decide +kernel, rfl, by decide +kernel, by decide +kernel⟩
theorem dr_Map_copy (T : Wd K mg) (c_Map : Mak P w K mg base 1 "Map" (He.ga K "Map") (sp_Map_init K) []) (c_Map_hear : Met P w K mg base 1 (He.ga K "Map") "hear" (sp_Map_hear K) []) {f : Addr} {cdv : Value} {A : Around} {outer : List Env} {s : Shared} {H : Hp} {E : XK} (hr : Room 2 (A.deeper (envOfC "Map.copy" (defScope s_Map_copy) s.heap.objs.size f cdv))) :
    PSs (cxOf CX0 P w K mg base ["self", "other", "house"] "Map.copy" (defScope s_Map_copy) f cdv A outer s H E).nox (defBody s_Map_copy) (t_Map_copy K) := by
  have nd := sc_Map_copy.nd
  exact (pss_cons (ps_set (i := 1) nd rfl (by first | exact Or.inl rfl | exact Or.inr rfl) (pe_mk0 c_Map hr (by decide) rfl))
    (pss_cons (ps_lock (ps_for PassesOwn.never rfl (pi_keys (pe_fld (pv 0) rfl)) (pg_name (i := 2) nd rfl (by first | exact Or.inl rfl | exact Or.inr rfl))
    (pss_one (ps_expr (pe_mt c_Map_hear hr (by decide) (pv 1) (pa_cons (pe_dget (hu_of hr) (pe_fld (pv 0) rfl) (pv 2) (fun _ _ => rfl)) pa_nil))))))
    (pss_one (ps_ret (pv 1)))))
theorem ok_Map_copy (T : Wd K mg) (c_Map : Mak P w K mg base 1 "Map" (He.ga K "Map") (sp_Map_init K) []) (c_Map_hear : Met P w K mg base 1 (He.ga K "Map") "hear" (sp_Map_hear K) []) {f : Addr} {fd : FuncData} (F : FunD K ds_Map_copy.name ds_Map_copy.qual ds_Map_copy.params ds_Map_copy.body ds_Map_copy.scope [] [] f fd) : FnOk P w K mg base CX0 3 f fd ["self"] (sp_Map_copy K) := by
  refine FunD.ok F sc_Map_copy (fun vs H Q E h => ?_) (fun cdv A outer s H vs Q E hr h => ⟨t_Map_copy K, PSs.nox (dr_Map_copy T c_Map c_Map_hear hr), pure_Map_copy T vs H Q E h⟩)
  obtain ⟨_, _, e, _⟩ := h
  rw [e]
  all_goals rfl
end
end

end K85
end
section
set_option maxHeartbeats 400000
namespace K85
open PySem PySem.Spec PyProof.Rows
open L2 hiding CX0 E0 pass0
open C8 Evl
/-! ### tactics -/
local macro_rules | `(tactic| walk_at "side") => `(tactic| first | omega | assumption | rfl | decide)
local macro_rules | `(tactic| walk_at "at") => `(tactic| first | (refine at_int ?_ ?_ <;> first | omega | (simp; omega)) | assumption)
local macro_rules | `(tactic| walk_at "rv") => `(tactic| first
  | with_reducible exact rv_I0
  | ((with_reducible apply rv_eq); rfl)
  | ((with_reducible apply rv_ne); rfl)
  | ((with_reducible apply rv_mod); first | omega | decide)
  | ((with_reducible apply rv_mul); omega)
  | ((with_reducible apply rv_div); omega)
  | ((with_reducible apply rv_ixL); · assumption
     · walk_at "at")
  | ((with_reducible apply rv_ixT); · assumption
     · walk_at "at"))
local macro_rules | `(tactic| walk_at "ev") => `(tactic| first
  | ((with_reducible apply ev_var); rfl)
  | with_reducible exact ev_c
  | ((with_reducible apply ev_isN); walk_at "ev")
  | ((with_reducible apply ev_notN); walk_at "ev")
  | ((with_reducible apply ev_op); · walk_at "ev"
     · walk_at "ev"
     · walk_at "rv")
  | ((with_reducible apply ev_un); · walk_at "ev"
     · with_reducible exact ru_neg)
  | ((with_reducible apply ev_chain); · walk_at "ev"
     · walk_at "ev"
     · walk_at "rv"
     · intro _; walk_at "ev"
     · intro _; walk_at "rv")
  | ((with_reducible apply ev_len); · walk_at "ev"
     · assumption)
  | ((with_reducible apply ev_lenT); · walk_at "ev"
     · assumption)
  | ((with_reducible apply ev_andV); · walk_at "ev"
     · intro _; walk_at "ev")
  | with_reducible assumption)
local macro_rules | `(tactic| walk_at "evt") => `(tactic| first
  | ((with_reducible apply et_or); · walk_at "evt"
     · intro _; walk_at "evt")
  | ((with_reducible apply et_and); · walk_at "evt"
     · intro _; walk_at "evt")
  | ((with_reducible apply et_not); walk_at "evt")
  | ((with_reducible apply et_test); walk_at "ev")
  | ((with_reducible apply et_B); walk_at "ev")
  | with_reducible assumption)
local macro_rules | `(tactic| walk_at "bool") => `(tactic| first | rfl | (simp; done) | (simp; omega) | (simp; intros; omega) | grind)
/-! ### wires: plain -/
structure WOk (ws : List Wire) : Prop where
  ok : ∀ w ∈ ws, 0 ≤ w.1 ∧ w.1 < w.2.1 ∧ w.2.1 ≤ 31 ∧ 1 ≤ w.2.2 ∧ w.2.2 ≤ 10
  un : ws.Pairwise fun u v => ¬ (u.1 = v.1 ∧ u.2.1 = v.2.1)
  len : ws.length ≤ 1000
def besO (h : Int) (w : Wire) : Option (Int × Int) := if w.1 = h then some (w.2.1, w.2.2) else if w.2.1 = h then some (w.1, w.2.2) else none
def besR (ws : List Wire) (h : Int) : List (Int × Int) := ws.filterMap (besO h)
def psrt (ps : List (Int × Int)) : List (Int × Int) := ps.mergeSort fun a b => decide (a.1 ≤ b.1)
def bes (ws : List Wire) (h : Int) : List (Int × Int) := psrt (besR ws h)
theorem psrt_perm (ps : List (Int × Int)) : (psrt ps).Perm ps := List.mergeSort_perm _ _
theorem psrt_le (ps : List (Int × Int)) : (psrt ps).Pairwise fun a b => a.1 ≤ b.1 := by
  have := List.pairwise_mergeSort (le := fun a b : Int × Int => decide (a.1 ≤ b.1)) (fun a b c h1 h2 => by simp at *; omega) (fun a b => by simp; omega) ps
  exact this.imp fun h => by simpa using h
theorem psrt_lt {ps : List (Int × Int)} (h : ps.Pairwise fun a b => a.1 ≠ b.1) : (psrt ps).Pairwise fun a b => a.1 < b.1 := by
  have h1 := (psrt_perm ps).symm.pairwise h (fun h => Ne.symm h)
  exact ((psrt_le ps).and h1).imp fun h => by omega
theorem perm_srt_fst : ∀ {xs ys : List (Int × Int)}, xs.Perm ys → xs.Pairwise (fun a b => a.1 < b.1) → ys.Pairwise (fun a b => a.1 < b.1) → xs = ys
  | [], ys, p, _, _ => (List.nil_perm.mp p).symm
  | x :: xs, [], p, _, _ => absurd (List.perm_nil.mp p) (by simp)
  | x :: xs, y :: ys, p, h1, h2 => by
    rw [List.pairwise_cons] at h1 h2
    have hx : x ∈ y :: ys := p.mem_iff.mp List.mem_cons_self
    have hy : y ∈ x :: xs := p.mem_iff.mpr List.mem_cons_self
    have e : x = y := by
      rcases List.mem_cons.mp hx with e | hx
      · exact e
      · rcases List.mem_cons.mp hy with e | hy
        · exact e.symm
        · have := h1.1 y hy
          have := h2.1 x hx
          omega
    subst e
    rw [perm_srt_fst ((List.perm_cons x).mp p) h1.2 h2.2]
theorem besR_mem {ws : List Wire} {h o l : Int} : (o, l) ∈ besR ws h ↔ (∃ w ∈ ws, (w.1 = h ∧ w.2.1 = o ∧ w.2.2 = l) ∨ (w.1 ≠ h ∧ w.2.1 = h ∧ w.1 = o ∧ w.2.2 = l)) := by
  unfold besR besO
  rw [List.mem_filterMap]
  constructor
  · rintro ⟨w, hw, e⟩
    refine ⟨w, hw, ?_⟩
    split at e
    · rename_i h1
      cases e
      exact .inl ⟨h1, rfl, rfl⟩
    · rename_i h1
      split at e
      · rename_i h2
        cases e
        exact .inr ⟨h1, h2, rfl, rfl⟩
      · cases e
  · rintro ⟨w, hw, ⟨h1, h2, h3⟩ | ⟨h1, h2, h3, h4⟩⟩
    · exact ⟨w, hw, by rw [if_pos h1, h2, h3]⟩
    · exact ⟨w, hw, by rw [if_neg h1, if_pos h2, h3, h4]⟩
theorem WOk.adj {ws : List Wire} (W : WOk ws) {h o l : Int} (m : (o, l) ∈ besR ws h) : (h, l) ∈ besR ws o ∧ o ≠ h ∧ 0 ≤ o ∧ o ≤ 31 ∧ 0 ≤ h ∧ h ≤ 31 ∧ 1 ≤ l ∧ l ≤ 10 := by
  obtain ⟨w, hw, h1⟩ := besR_mem.mp m
  have := W.ok w hw
  refine ⟨besR_mem.mpr ⟨w, hw, ?_⟩, ?_⟩ <;> omega
theorem besR_ne {h : Int} : ∀ {ws : List Wire}, WOk ws → (besR ws h).Pairwise fun a b => a.1 ≠ b.1
  | [], _ => List.Pairwise.nil
  | w :: ws, W => by
    have un := List.pairwise_cons.mp W.un
    have ih := besR_ne (h := h) (ws := ws) ⟨fun w hw => W.ok w (List.mem_cons_of_mem _ hw), un.2, by have := W.len; rw [List.length_cons] at this; omega⟩
    have head : ∀ p, besO h w = some p → ∀ q ∈ besR ws h, p.1 ≠ q.1 := by
      rintro ⟨o, l⟩ hp ⟨o2, l2⟩ hq z
      obtain ⟨u, hu, hh⟩ := besR_mem.mp hq
      have h1 := un.1 u hu
      have h2 := W.ok w List.mem_cons_self
      have h3 := W.ok u (List.mem_cons_of_mem _ hu)
      have hp' : (o, l) ∈ besR [w] h := by
        unfold besR
        rw [List.mem_filterMap]
        exact ⟨w, by simp, hp⟩
      obtain ⟨v, hv, hh'⟩ := besR_mem.mp hp'
      rw [List.mem_singleton.mp hv] at hh'
      dsimp only at z
      omega
    unfold besR
    rw [List.filterMap_cons]
    cases e : besO h w with
    | none => exact ih
    | some p => exact List.pairwise_cons.mpr ⟨head p e, ih⟩
theorem bes_mem {ws : List Wire} {h : Int} {p : Int × Int} : p ∈ bes ws h ↔ p ∈ besR ws h := (psrt_perm _).mem_iff
theorem bes_lt {ws : List Wire} (W : WOk ws) (h : Int) : (bes ws h).Pairwise fun a b => a.1 < b.1 := psrt_lt (besR_ne W)
theorem bes_len {ws : List Wire} (W : WOk ws) (h : Int) : (bes ws h).length ≤ 1000 := by
  rw [show (bes ws h).length = (besR ws h).length from (psrt_perm _).length_eq]
  exact Nat.le_trans (List.length_filterMap_le _ _) W.len
theorem WOk.one {ws : List Wire} (W : WOk ws) {h o l l2 : Int} (m : (o, l) ∈ besR ws h) (m2 : (o, l2) ∈ besR ws h) : l = l2 := by
  have key : ∀ ps : List (Int × Int), ps.Pairwise (fun a b => a.1 ≠ b.1) → (o, l) ∈ ps → (o, l2) ∈ ps → l = l2 := by
    intro ps
    induction ps with
    | nil => intro _ h; cases h
    | cons p ps ih =>
      intro hp h1 h2
      rw [List.pairwise_cons] at hp
      rcases List.mem_cons.mp h1 with e1 | h1 <;> rcases List.mem_cons.mp h2 with e2 | h2
      · rw [← e1] at e2
        exact (Prod.mk.inj e2).2.symm
      · exact absurd (by rw [← e1]) (hp.1 _ h2)
      · exact absurd (by rw [← e2]) (hp.1 _ h1)
      · exact ih hp.2 h1 h2
  exact key _ (besR_ne W) m m2
/-! the lengths -/
structure IsDist (ws : List Wire) (goal : Int) (g : Int → Option Int) : Prop where
  g0 : g goal = some 0
  pos : ∀ h d, g h = some d → 0 ≤ d ∧ 0 ≤ h ∧ h ≤ 31
  cl : ∀ h d o l, g h = some d → (o, l) ∈ besR ws h → ∃ d', g o = some d' ∧ d' ≤ d + l
  re : ∀ h d, g h = some d → h ≠ goal → ∃ o l d', (o, l) ∈ besR ws h ∧ g o = some d' ∧ d' + l ≤ d
theorem dist_le {ws : List Wire} (W : WOk ws) {goal : Int} {g k : Int → Option Int} (D : IsDist ws goal g) (E : IsDist ws goal k) : ∀ (n : Nat) (h d : Int), d.toNat ≤ n → g h = some d → ∃ e, k h = some e ∧ e ≤ d
  | 0, h, d, hn, e => by
    by_cases hg : h = goal
    · rw [hg]
      exact ⟨0, E.g0, (D.pos h d e).1⟩
    · obtain ⟨o, l, d', a, b, c⟩ := D.re h d e hg
      have := W.adj a
      have := D.pos _ _ b
      omega
  | n + 1, h, d, hn, e => by
    by_cases hg : h = goal
    · rw [hg]
      exact ⟨0, E.g0, (D.pos h d e).1⟩
    · obtain ⟨o, l, d', a, b, c⟩ := D.re h d e hg
      have w := W.adj a
      have p := D.pos _ _ b
      obtain ⟨e', he, hle⟩ := dist_le W D E n o d' (by omega) b
      obtain ⟨x, hx, hxl⟩ := E.cl o e' h l he w.1
      exact ⟨x, hx, by omega⟩
theorem dist_uniq {ws : List Wire} (W : WOk ws) {goal : Int} {g k : Int → Option Int} (D : IsDist ws goal g) (E : IsDist ws goal k) : g = k := by
  funext h
  cases e : g h with
  | none =>
    cases e2 : k h with
    | none => rfl
    | some d =>
      obtain ⟨x, hx, _⟩ := dist_le W E D d.toNat h d (Nat.le_refl _) e2
      rw [e] at hx
      cases hx
  | some d =>
    obtain ⟨x, hx, h1⟩ := dist_le W D E d.toNat h d (Nat.le_refl _) e
    obtain ⟨y, hy, h2⟩ := dist_le W E D x.toNat h x (Nat.le_refl _) hx
    rw [e] at hy
    cases hy
    rw [hx, Int.le_antisymm h2 h1]
open Classical in
noncomputable def dist (ws : List Wire) (goal : Int) : Int → Option Int := if h : ∃ g, IsDist ws goal g then choose h else fun _ => none
theorem dist_eq {ws : List Wire} (W : WOk ws) {goal : Int} {g : Int → Option Int} (D : IsDist ws goal g) : g = dist ws goal := by
  have h : ∃ g, IsDist ws goal g := ⟨g, D⟩
  unfold dist
  rw [dif_pos h]
  exact dist_uniq W D (Classical.choose_spec h)
theorem IsDist.eq {ws : List Wire} (W : WOk ws) {goal : Int} {g : Int → Option Int} (D : IsDist ws goal g) {h d o l : Int} (e : g h = some d) (m : (o, l) ∈ besR ws h) : ∃ d', g o = some d' ∧ d' ≤ d + l ∧ d ≤ d' + l := by
  obtain ⟨d', h1, h2⟩ := D.cl h d o l e m
  obtain ⟨d2, h3, h4⟩ := D.cl o d' h l h1 (W.adj m).1
  rw [e] at h3
  cases h3
  exact ⟨d', h1, h2, h4⟩
theorem dist_sym {ws : List Wire} (W : WOk ws) {a b : Int} {g k : Int → Option Int} (D : IsDist ws a g) (E : IsDist ws b k) : ∀ (n : Nat) (h d : Int), d.toNat ≤ n → g h = some d → (k h).isSome = true → (k a).isSome = true
  | n, h, d, hn, e, hk => by
    by_cases hg : h = a
    · rw [← hg]
      exact hk
    · obtain ⟨o, l, d', m, e', c⟩ := D.re h d e hg
      have w := W.adj m
      have p := D.pos _ _ e'
      obtain ⟨y, hy⟩ := Option.isSome_iff_exists.mp hk
      obtain ⟨z, hz, _⟩ := E.cl h y o l hy m
      cases n with
      | zero => omega
      | succ n => exact dist_sym W D E n o d' (by omega) e' (by rw [hz]; rfl)

end K85
end
section
set_option maxHeartbeats 400000
namespace K85
open PySem PySem.Spec PyProof.Rows
open L2 hiding CX0 E0 pass0
open C8 Evl
/-! ### tactics -/
local macro_rules | `(tactic| walk_at "side") => `(tactic| first | omega | assumption | rfl | decide)
local macro_rules | `(tactic| walk_at "at") => `(tactic| first | (refine at_int ?_ ?_ <;> first | omega | (simp; omega)) | assumption)
local macro_rules | `(tactic| walk_at "rv") => `(tactic| first
  | with_reducible exact rv_I0
  | ((with_reducible apply rv_eq); rfl)
  | ((with_reducible apply rv_ne); rfl)
  | ((with_reducible apply rv_mod); first | omega | decide)
  | ((with_reducible apply rv_mul); omega)
  | ((with_reducible apply rv_div); omega)
  | ((with_reducible apply rv_ixL); · assumption
     · walk_at "at")
  | ((with_reducible apply rv_ixT); · assumption
     · walk_at "at"))
local macro_rules | `(tactic| walk_at "ev") => `(tactic| first
  | ((with_reducible apply ev_var); rfl)
  | with_reducible exact ev_c
  | ((with_reducible apply ev_isN); walk_at "ev")
  | ((with_reducible apply ev_notN); walk_at "ev")
  | ((with_reducible apply ev_op); · walk_at "ev"
     · walk_at "ev"
     · walk_at "rv")
  | ((with_reducible apply ev_un); · walk_at "ev"
     · with_reducible exact ru_neg)
  | ((with_reducible apply ev_chain); · walk_at "ev"
     · walk_at "ev"
     · walk_at "rv"
     · intro _; walk_at "ev"
     · intro _; walk_at "rv")
  | ((with_reducible apply ev_len); · walk_at "ev"
     · assumption)
  | ((with_reducible apply ev_lenT); · walk_at "ev"
     · assumption)
  | ((with_reducible apply ev_andV); · walk_at "ev"
     · intro _; walk_at "ev")
  | with_reducible assumption)
local macro_rules | `(tactic| walk_at "evt") => `(tactic| first
  | ((with_reducible apply et_or); · walk_at "evt"
     · intro _; walk_at "evt")
  | ((with_reducible apply et_and); · walk_at "evt"
     · intro _; walk_at "evt")
  | ((with_reducible apply et_not); walk_at "evt")
  | ((with_reducible apply et_test); walk_at "ev")
  | ((with_reducible apply et_B); walk_at "ev")
  | with_reducible assumption)
local macro_rules | `(tactic| walk_at "bool") => `(tactic| first | rfl | (simp; done) | (simp; omega) | (simp; intros; omega) | grind)
theorem wireOf_inv {f : MF} {h : Int} {t : Near} {w : Wire} (e : wireOf f h t = some w) : w.1 = h ∧ w.2.1 = t.1 ∧ h < t.1 ∧ ∃ q, backM f h t.1 t.2.2.1 t.2.2.2 = some q ∧ w.2.2 = if q > t.2.1 then q else t.2.1 := by
  unfold wireOf at e
  split at e
  · cases e
  · rename_i q hq
    split at e
    · rename_i hl
      cases e
      exact ⟨rfl, rfl, hl, q, hq, rfl⟩
    · cases e
theorem back_ok {f : MF} (h : ∀ (i : Int) N, f i = some N → N.house = i ∧ N.Ok) {a b x y q : Int} (e : backM f a b x y = some q) : 1 ≤ q ∧ q ≤ 10 := by
  unfold backM at e
  split at e
  · cases e
  · rename_i N hN
    rw [Option.map_eq_some_iff] at e
    obtain ⟨t, ht, rfl⟩ := e
    have := (h _ _ hN).2.near.ok t (List.mem_of_find?_eq_some ht)
    omega
theorem wiresM_ok {f : MF} (h : ∀ (i : Int) N, f i = some N → N.house = i ∧ N.Ok) : WOk (wiresM f) where
  ok := fun w hw => by
    unfold wiresM wiresAt at hw
    rw [List.mem_flatMap] at hw
    obtain ⟨i, hi, hw⟩ := hw
    split at hw
    · cases hw
    · rename_i N hN
      rw [List.mem_filterMap] at hw
      obtain ⟨t, ht, e⟩ := hw
      obtain ⟨h1, h2, h3, q, hq, h4⟩ := wireOf_inv e
      have := (h _ _ hN).2.near.ok t ht
      have := back_ok h hq
      rw [h1, h2, h4]
      split <;> omega
  un := by
    unfold wiresM
    rw [List.pairwise_flatMap]
    refine ⟨fun i hi => ?_, ?_⟩
    · unfold wiresAt
      split
      · exact List.Pairwise.nil
      · rename_i N hN
        rw [List.pairwise_filterMap]
        refine (h _ _ hN).2.near.up.imp fun {a b} hab u hu v hv z => ?_
        have := wireOf_inv hu
        have := wireOf_inv hv
        omega
    · unfold hsL
      refine ((List.nodup_range (n := 32)).filter _).imp fun {a b} hab u hu v hv z => ?_
      have key : ∀ (i : Nat) (u : Wire), u ∈ wiresAt f i → u.1 = i := fun i u hu => by
        unfold wiresAt at hu
        split at hu
        · cases hu
        · rw [List.mem_filterMap] at hu
          obtain ⟨t, _, e⟩ := hu
          exact (wireOf_inv e).1
      have := key a u hu
      have := key b v hv
      omega
  len := by
    have := wires_len (fun i N e => (h i N e).2) (hsL f)
    have := hsL_len f
    unfold wiresM
    omega
section
variable {K : PySem.W.Frag} {mg : Str → Option Value}
/-! ### beside -/
def PairAt (H : Hp) (v : V) (p : Int × Int) : Prop := ∃ t, v = .ref t ∧ H t = some (.tup [.int p.1, .int p.2])
theorem PairAt.ex {H H' : Hp} (e : Ex H H') {v : V} {p : Int × Int} (h : PairAt H v p) : PairAt H' v p := by
  obtain ⟨t, a, b⟩ := h
  exact ⟨t, a, e _ _ b⟩
theorem pairs_ex {H H' : Hp} (e : Ex H H') {xs : List V} {ps : List (Int × Int)} (h : Paired (PairAt H) xs ps) : Paired (PairAt H') xs ps := Paired.mapP h fun _ _ q => q.ex e
def kPair (H : Hp) : V → Int × Int
  | .ref t => match H t with
    | some (.tup [.int a, .int b]) => (a, b)
    | _ => (0, 0)
  | _ => (0, 0)
theorem kPair_eq {H : Hp} {v : V} {p : Int × Int} (h : PairAt H v p) : kPair H v = p := by
  obtain ⟨t, rfl, e⟩ := h
  unfold kPair
  simp only [e]
theorem kPairs {H : Hp} : ∀ {xs : List V} {ps : List (Int × Int)}, Paired (PairAt H) xs ps → xs.map (kPair H) = ps
  | _, _, .nil => rfl
  | _, _, .cons h t => by rw [List.map_cons, kPair_eq h, kPairs t]
theorem Paired.mem {α β : Type} {F : α → β → Prop} : ∀ {l : List α} {m : List β} {a : α}, Paired F l m → a ∈ l → ∃ b ∈ m, F a b
  | _, _, _, .cons r t, h => by
    rcases List.mem_cons.mp h with rfl | h
    · exact ⟨_, List.mem_cons_self, r⟩
    · obtain ⟨b, hb, q⟩ := Paired.mem t h
      exact ⟨b, List.mem_cons_of_mem _ hb, q⟩
theorem Paired.of_map {α β : Type} {F : α → β → Prop} (k : α → β) : ∀ {l : List α}, (∀ a ∈ l, F a (k a)) → Paired F l (l.map k)
  | [], _ => .nil
  | a :: l, h => .cons (h a List.mem_cons_self) (Paired.of_map k fun b hb => h b (List.mem_cons_of_mem _ hb))
/-- sorted(pairs), no two alike ahead -/
theorem sortPO {H : Hp} {a : Addr} {xs : List V} {ps : List (Int × Int)} {Q : VK} (hs : SqL K H a xs) (hx : Paired (PairAt H) xs ps) (ne : ps.Pairwise fun a b => a.1 ≠ b.1) (k : ∀ ys p, Paired (PairAt H) ys (psrt ps) → H p = none → Q (.ref p) (upd H p (.lst ys))) : rSortedPO K [.ref a] H Q := by
  refine ⟨a, xs, kPair H, rfl, hs, fun x hxx => ?_, fun ys p sr st hp => k ys p ?_ hp⟩
  · obtain ⟨b, _, hb⟩ := Paired.mem hx hxx
    obtain ⟨t, rfl, e⟩ := hb
    refine ⟨t, rfl, ?_⟩
    rw [kPair_eq ⟨t, rfl, e⟩]
    exact e
  · have hk := kPairs hx
    have pm : (ys.map (kPair H)).Perm ps := by
      rw [← hk]
      exact st.perm.map _
    have e : ys.map (kPair H) = psrt ps := by
      refine perm_srt_fst (pm.trans (psrt_perm ps).symm) ?_ (psrt_lt ne)
      have h1 : (ys.map (kPair H)).Pairwise fun a b => SrtO.lexB b a = false := List.pairwise_map.mpr sr
      have h2 := pm.symm.pairwise ne (fun h => Ne.symm h)
      exact (h1.and h2).imp fun h => by
        have := SrtO.lexB_no.mp h.1
        omega
    rw [← e]
    refine Paired.of_map _ fun y hy => ?_
    obtain ⟨b, _, hb⟩ := Paired.mem hx (st.perm.mem_iff.mp hy)
    rw [kPair_eq hb]
    exact hb
def WiresAt (K : PySem.W.Frag) (H : Hp) (a : Addr) (ws : List Wire) : Prop := ∃ xs, SqL K H a xs ∧ ImAll K H xs (ws.map wireD)
theorem WiresAt.ex {H H' : Hp} {a : Addr} {ws : List Wire} (h : WiresAt K H a ws) (e : Ex H H') : WiresAt K H' a ws := by
  obtain ⟨xs, h1, h2⟩ := h
  exact ⟨xs, ex_l e h1, ImAll.ex e h2⟩
theorem wire_inv {H : Hp} {v : V} {w : Wire} (h : Im K H v (wireD w)) : ∃ a, v = .ref a ∧ SqT K H a [.int w.1, .int w.2.1, .int w.2.2] := by
  obtain ⟨a, xs, rfl, hp, hi⟩ := Im.tup_inv h
  have := ImAll.ints_eq (ns := [w.1, w.2.1, w.2.2]) hi
  subst this
  exact ⟨a, rfl, hp⟩
def sp_beside (K : PySem.W.Frag) : Sp := fun vs H Q _ => ∃ (a : Addr) (h : Int) (ws : List Wire), vs = [.ref a, .int h] ∧ WiresAt K H a ws ∧ WOk ws ∧ ∀ l xs H', H l = none → Ex H H' → H' l = some (.lst xs) → Paired (PairAt H') xs (bes ws h) → Q (.ref l) H'
/-- beside -/
def t_beside (K : PySem.W.Frag) : TS :=
    (tSeq (tAsg (tLst tNil) (gName 2))
    (tSeq (tFor (iList K (tVar 0)) (gTup K 3 (gCons (gName 3) (gCons (gName 4) (gCons (gName 5) gNil))))
    (tIfS (tTest (tOp rEq (tVar 3) (tVar 1))) (tDrop (tBM K "list" rAppend (tVar 2) (tCons (tTup (tCons (tVar 4) (tCons (tVar 5) tNil))) tNil))) (tIfS (tTest (tOp rEq (tVar 4) (tVar 1))) (tDrop (tBM K "list" rAppend (tVar 2) (tCons (tTup (tCons (tVar 3) (tCons (tVar 5) tNil))) tNil))) tNext)))
    (tRet (tCB (rSortedPO K) (tCons (tVar 2) tNil)))))
theorem besR_snoc {ws : List Wire} {i : Nat} {w : Wire} (h : Int) (e : ws[i]? = some w) : besR (ws.take (i + 1)) h = besR (ws.take i) h ++ (besO h w).toList := by
  unfold besR
  rw [take_snoc e, List.filterMap_append, List.filterMap_cons]
  cases besO h w <;> rfl
theorem pure_beside (T : Wd K mg) (vs : List V) (H : Hp) (Q : VK) (E : XK) (h : sp_beside K vs H Q E) : t_beside K { nx := fun _ H' => Q .non H', rt := Q } (start ["wires", "house", "found", "a", "b", "length"] vs) H := by
  obtain ⟨a, h, ws, rfl, ⟨xs, hs, hi⟩, W, k⟩ := h
  have xl : xs.length = ws.length := by rw [hi.length, List.length_map]
  have wl := W.len
  refine q_asgL (xs := []) (el_lst ea_nil (Nat.zero_le _)) fun l H1 hl e1 h1 => ?_
  refine q_forL (ev_var rfl) (ex_l e1 hs) (fun i σ' H' => Ex H H' ∧ (∃ o1 o2 o3, σ' = [some (.ref a), some (.int h), some (.ref l), o1, o2, o3]) ∧ ∃ ys, H' l = some (.lst ys) ∧ (∀ v ∈ ys, v ≠ .ref l) ∧ Paired (PairAt H') ys (besR (ws.take i) h))
    (fun H2 e2 => ⟨e1.trans e2, ⟨none, none, none, rfl⟩, [], e2 _ _ h1, by simp, .nil⟩) (fun i σ' H' _ q => ex_l q.1 hs) ?_ ?_
  · rintro i x σ' H' hx ⟨e, ⟨o1, o2, o3, rfl⟩, ys, hy, hn, py⟩
    obtain ⟨dd, hdd, ix⟩ := hi.get hx
    rw [List.getElem?_map, Option.map_eq_some_iff] at hdd
    obtain ⟨w, hw, rfl⟩ := hdd
    obtain ⟨ta, rfl, hta⟩ := wire_inv (Im.ex e ix)
    have bl : (besR (ws.take i) h).length ≤ 1000 := by
      unfold besR
      refine Nat.le_trans (List.length_filterMap_le _ _) ?_
      rw [List.length_take]
      omega
    have yl : ys.length < 100000 := by
      have := congrArg List.length (kPairs py)
      rw [List.length_map] at this
      omega
    refine ⟨ta, _, rfl, hta, rfl, _, _, rfl, _, _, rfl, _, _, rfl, rfl, ?_⟩
    have step : ∀ H4, Ex H' H4 → ∀ (q : Addr) (o m : Int), H4 q = none → besO h w = some (o, m) → (∃ o1 o2 o3, ([some (.ref a), some (.int h), some (.ref l), some (.int w.1), some (.int w.2.1), some (.int w.2.2)] : L2.St) = [some (.ref a), some (.int h), some (.ref l), o1, o2, o3]) ∧ ∃ zs, (upd (upd H4 q (.tup [.int o, .int m])) l (.lst (ys ++ [.ref q]))) l = some (.lst zs) ∧ (∀ v ∈ zs, v ≠ .ref l) ∧ Paired (PairAt (upd (upd H4 q (.tup [.int o, .int m])) l (.lst (ys ++ [.ref q])))) zs (besR (ws.take (i + 1)) h) := fun H4 e4 q o m hq hb => by
      have nql : q ≠ l := fun z => by
        rw [z, e4 _ _ hy] at hq
        cases hq
      refine ⟨⟨_, _, _, rfl⟩, _, upd_same, fun v hv => ?_, ?_⟩
      · rw [List.mem_append, List.mem_singleton] at hv
        rcases hv with hv | rfl
        · exact hn v hv
        · exact fun z => nql (V.ref.inj z)
      · rw [besR_snoc h hw, hb]
        refine Paired.snoc ?_ ⟨q, rfl, by rw [upd_ne nql]; exact upd_same⟩
        have py2 := pairs_ex (e4.trans (Ex.new hq (o := .tup [.int o, .int m]))) py
        have key : ∀ {zs : List V} {ps : List (Int × Int)}, (∀ v ∈ zs, v ≠ .ref l) → Paired (PairAt (upd H4 q (.tup [.int o, .int m]))) zs ps → Paired (PairAt (upd (upd H4 q (.tup [.int o, .int m])) l (.lst (ys ++ [.ref q])))) zs ps := by
          intro zs ps hz hp
          induction hp with
          | nil => exact .nil
          | cons r t ih =>
            obtain ⟨u, rfl, hu⟩ := r
            exact .cons ⟨u, rfl, by rw [upd_ne (fun z => hz _ List.mem_cons_self (by rw [z]))]; exact hu⟩ (ih fun v hv => hz v (List.mem_cons_of_mem _ hv))
        exact key hn py2
    have go : ∀ (j : Nat) (o m : Int) (H4 : Hp), Ex H' H4 → ([some (.ref a), some (.int h), some (.ref l), some (.int w.1), some (.int w.2.1), some (.int w.2.2)] : L2.St)[j]? = some (some (.int o)) → w.2.2 = m → besO h w = some (o, m) → tDrop (tBM K "list" rAppend (tVar 2) (tCons (tTup (tCons (tVar j) (tCons (tVar 5) tNil))) tNil)) { nx := (fun i σ' H' => Ex H H' ∧ (∃ o1 o2 o3, σ' = [some (.ref a), some (.int h), some (.ref l), o1, o2, o3]) ∧ ∃ ys, H' l = some (.lst ys) ∧ (∀ v ∈ ys, v ≠ .ref l) ∧ Paired (PairAt H') ys (besR (ws.take i) h)) (i + 1), rt := Q } [some (.ref a), some (.int h), some (.ref l), some (.int w.1), some (.int w.2.1), some (.int w.2.2)] H4 := fun j o m H4 e4 hj hm hb => by
      subst hm
      refine ⟨_, rfl, .inl ⟨rfl, ys, sq_of (e4 _ _ hy)⟩, _, hj, _, rfl, sz_of (Nat.le_of_ble_eq_true rfl), fun q hq => ⟨l, ys, .ref q, rfl, rfl, Ex.new hq _ _ (e4 _ _ hy), sz_lt yl, ?_⟩⟩
      have := step H4 e4 q o _ hq hb
      exact ⟨Ex.mut ((e.trans e4).trans (Ex.new hq)) hl, this⟩
    refine s_if (b := decide (w.1 = h)) (et_is (et_test (ev_op (ev_var rfl) (ev_var rfl) (rv_eq rfl))) (by simp)) (fun hb H4 e4 => ?_) fun hb H4 e4 => ?_
    · exact go 4 w.2.1 _ H4 e4 rfl rfl (by unfold besO; rw [if_pos (of_decide_eq_true hb)])
    · have hb := of_decide_eq_false hb
      refine s_when (b := decide (w.2.1 = h)) (et_is (et_test (ev_op (ev_var rfl) (ev_var rfl) (rv_eq rfl))) (by simp)) (fun hc H5 e5 => ?_) fun hc H5 e5 => ?_
      · exact go 3 w.1 _ H5 (e4.trans e5) rfl rfl (by unfold besO; rw [if_neg hb, if_pos (of_decide_eq_true hc)])
      · have hc := of_decide_eq_false hc
        refine ⟨(e.trans e4).trans e5, ⟨_, _, _, rfl⟩, ys, (e4.trans e5) _ _ hy, hn, ?_⟩
        rw [besR_snoc h hw, show besO h w = none by unfold besO; rw [if_neg hb, if_neg hc], Option.toList_none, List.append_nil]
        exact pairs_ex (e4.trans e5) py
  · rintro σ' H' ⟨e, ⟨o1, o2, o3, rfl⟩, ys, hy, hn, py⟩
    rw [xl, List.take_length] at py
    refine ⟨_, rfl, ?_⟩
    exact sortPO (sq_of hy) py (besR_ne W) fun zs q pz hq => k q zs _ (fresh_back e hq) (e.trans (Ex.new hq)) upd_same (pairs_ex (Ex.new hq) pz)
section
variable {P : Program} {w : World} {K : PySem.W.Frag} {mg : Str → Option Value} {base : Heap}
theorem sc_beside : FnScope ["wires", "house", "found", "a", "b", "length"] ["wires", "house"] (defScope s_beside) := ⟨rfl, rfl, rfl, by decide +kernel, rfl, by decide +kernel, by decide +kernel⟩
theorem dr_beside (T : Wd K mg) {f : Addr} {cdv : Value} {A : Around} {outer : List Env} {s : Shared} {H : Hp} {E : XK} (hr : Room 0 (A.deeper (envOfC "beside" (defScope s_beside) s.heap.objs.size f cdv))) :
    PSs (cxOf CX0 P w K mg base ["wires", "house", "found", "a", "b", "length"] "beside" (defScope s_beside) f cdv A outer s H E).nox (defBody s_beside) (t_beside K) := by
  have nd := sc_beside.nd
  exact (pss_cons (ps_set (i := 2) nd rfl (by first | exact Or.inl rfl | exact Or.inr rfl) (pe_lst pa_nil))
    (pss_cons (ps_for PassesOwn.never rfl (pi_list (pv 0)) (pg_tup rfl (pgs_cons (pg_name (i := 3) nd rfl (by first | exact Or.inl rfl | exact Or.inr rfl)) (pgs_cons (pg_name (i := 4) nd rfl (by first | exact Or.inl rfl | exact Or.inr rfl)) (pgs_cons (pg_name (i := 5) nd rfl (by first | exact Or.inl rfl | exact Or.inr rfl)) pgs_nil))))
    (pss_one (ps_if (pt_cmpR op_eq (pv 3) (pv 1) (nomark _)) (pss_one (ps_expr (pe_bm PySem.F.plainAttrs_list PySem.F.slot_list_append PySem.F.type_list_append mt_append (pv 2) (pa_cons (pe_tup (pa_cons (pv 4) (pa_cons (pv 5) pa_nil))) pa_nil)))) (pss_one (ps_if (pt_cmpR op_eq (pv 4) (pv 1) (nomark _)) (pss_one (ps_expr (pe_bm PySem.F.plainAttrs_list PySem.F.slot_list_append PySem.F.type_list_append mt_append (pv 2) (pa_cons (pe_tup (pa_cons (pv 3) (pa_cons (pv 5) pa_nil))) pa_nil)))) pss_nil)))))
    (pss_one (ps_ret (pe_callB cr_sortedPO (by rfl) (T.free 104) (by decide +kernel) (pa_cons (pv 2) pa_nil))))))
theorem ok_beside (T : Wd K mg) {f : Addr} {fd : FuncData} (F : FunD K ds_beside.name ds_beside.qual ds_beside.params ds_beside.body ds_beside.scope [] [] f fd) : FnOk P w K mg base CX0 1 f fd ["wires", "house"] (sp_beside K) := by
  refine FunD.ok F sc_beside (fun vs H Q E h => ?_) (fun cdv A outer s H vs Q E hr h => ⟨t_beside K, PSs.nox (dr_beside T  hr), pure_beside T vs H Q E h⟩)
  obtain ⟨_, _, _, e, _⟩ := h
  rw [e]
  all_goals rfl
end
end

end K85
end
section
set_option maxHeartbeats 400000
namespace K85
open PySem PySem.Spec PyProof.Rows
open L2 hiding CX0 E0 pass0
open C8 Evl
/-! ### tactics -/
local macro_rules | `(tactic| walk_at "side") => `(tactic| first | omega | assumption | rfl | decide)
local macro_rules | `(tactic| walk_at "at") => `(tactic| first | (refine at_int ?_ ?_ <;> first | omega | (simp; omega)) | assumption)
local macro_rules | `(tactic| walk_at "rv") => `(tactic| first
  | with_reducible exact rv_I0
  | ((with_reducible apply rv_eq); rfl)
  | ((with_reducible apply rv_ne); rfl)
  | ((with_reducible apply rv_mod); first | omega | decide)
  | ((with_reducible apply rv_mul); omega)
  | ((with_reducible apply rv_div); omega)
  | ((with_reducible apply rv_ixL); · assumption
     · walk_at "at")
  | ((with_reducible apply rv_ixT); · assumption
     · walk_at "at"))
local macro_rules | `(tactic| walk_at "ev") => `(tactic| first
  | ((with_reducible apply ev_var); rfl)
  | with_reducible exact ev_c
  | ((with_reducible apply ev_isN); walk_at "ev")
  | ((with_reducible apply ev_notN); walk_at "ev")
  | ((with_reducible apply ev_op); · walk_at "ev"
     · walk_at "ev"
     · walk_at "rv")
  | ((with_reducible apply ev_un); · walk_at "ev"
     · with_reducible exact ru_neg)
  | ((with_reducible apply ev_chain); · walk_at "ev"
     · walk_at "ev"
     · walk_at "rv"
     · intro _; walk_at "ev"
     · intro _; walk_at "rv")
  | ((with_reducible apply ev_len); · walk_at "ev"
     · assumption)
  | ((with_reducible apply ev_lenT); · walk_at "ev"
     · assumption)
  | ((with_reducible apply ev_andV); · walk_at "ev"
     · intro _; walk_at "ev")
  | with_reducible assumption)
local macro_rules | `(tactic| walk_at "evt") => `(tactic| first
  | ((with_reducible apply et_or); · walk_at "evt"
     · intro _; walk_at "evt")
  | ((with_reducible apply et_and); · walk_at "evt"
     · intro _; walk_at "evt")
  | ((with_reducible apply et_not); walk_at "evt")
  | ((with_reducible apply et_test); walk_at "ev")
  | ((with_reducible apply et_B); walk_at "ev")
  | with_reducible assumption)
local macro_rules | `(tactic| walk_at "bool") => `(tactic| first | rfl | (simp; done) | (simp; omega) | (simp; intros; omega) | grind)
/-! ### the lengths: plain -/
def lk : List (Int × Int) → Int → Option Int
  | [], _ => none
  | p :: l, h => if p.1 = h then some p.2 else lk l h
def putL (l : List (Int × Int)) (h v : Int) : List (Int × Int) := if (l.any fun p => decide (p.1 = h)) = true then l.map (fun p => if p.1 = h then (p.1, v) else p) else l ++ [(h, v)]
def farK (l : List (Int × Int)) : List (Key × V) := l.map fun p => (Sum.inl p.1, V.int p.2)
theorem lk_val (h : Int) : ∀ l : List (Int × Int), valV (farK l) (Sum.inl h : Key) = (lk l h).map V.int
  | [] => rfl
  | p :: l => by
    unfold farK lk
    rw [List.map_cons]
    by_cases e : p.1 = h
    · rw [valV_pos (by rw [e]), if_pos e]
      rfl
    · rw [valV_neg (fun z => e (Sum.inl.inj z)), if_neg e]
      exact lk_val h l
theorem lk_any (h : Int) : ∀ l : List (Int × Int), (l.any fun p => decide (p.1 = h)) = (lk l h).isSome
  | [] => rfl
  | p :: l => by
    unfold lk
    rw [List.any_cons, lk_any h l]
    by_cases e : p.1 = h
    · rw [if_pos e, decide_eq_true e]
      rfl
    · rw [if_neg e, decide_eq_false e]
      rfl
theorem putL_K (l : List (Int × Int)) (h v : Int) : putK (farK l) (Sum.inl h : Key) (V.int v) = farK (putL l h v) := by
  have e : ((farK l).any fun kv => decide (kv.1 = (Sum.inl h : Key))) = (l.any fun p => decide (p.1 = h)) := by
    rw [valV_any, lk_val, lk_any]
    cases lk l h <;> rfl
  unfold putK putL
  rw [e]
  split
  · unfold farK
    rw [List.map_map, List.map_map]
    refine List.map_congr_left fun p _ => ?_
    show (if (Sum.inl p.1 : Key) = Sum.inl h then (_, _) else (_, _)) = _
    by_cases e : p.1 = h
    · rw [if_pos (by rw [e])]
      show _ = ((Sum.inl (if p.1 = h then (p.1, v) else p).1 : Key), V.int (if p.1 = h then (p.1, v) else p).2)
      rw [if_pos e]
    · rw [if_neg (fun z => e (Sum.inl.inj z))]
      show _ = ((Sum.inl (if p.1 = h then (p.1, v) else p).1 : Key), V.int (if p.1 = h then (p.1, v) else p).2)
      rw [if_neg e]
  · unfold farK
    rw [List.map_append]
    rfl
theorem lk_app (l m : List (Int × Int)) (h : Int) : lk (l ++ m) h = (lk l h).or (lk m h) := by
  induction l with
  | nil => rfl
  | cons p l ih =>
    show (if p.1 = h then some p.2 else lk (l ++ m) h) = (if p.1 = h then some p.2 else lk l h).or _
    split
    · rfl
    · exact ih
theorem lk_set (h v j : Int) : ∀ l : List (Int × Int), lk (l.map fun p => if p.1 = h then (p.1, v) else p) j = if j = h then (lk l h).map (fun _ => v) else lk l j
  | [] => by
    show none = _
    split <;> rfl
  | p :: l => by
    rw [List.map_cons]
    show (if (if p.1 = h then (p.1, v) else p).1 = j then some (if p.1 = h then (p.1, v) else p).2 else lk _ j) = _
    rw [lk_set h v j l]
    show _ = if j = h then (if p.1 = h then some p.2 else lk l h).map (fun _ => v) else (if p.1 = j then some p.2 else lk l j)
    by_cases e : p.1 = h
    · rw [if_pos e]
      by_cases e2 : j = h
      · rw [if_pos e2, if_pos (by show p.1 = j; omega), if_pos e2, if_pos e]
        rfl
      · rw [if_neg e2, if_neg (by show ¬ p.1 = j; omega), if_neg e2, if_neg (by omega)]
    · rw [if_neg e, if_neg e]
      by_cases e2 : j = h
      · rw [if_pos e2, if_pos e2, if_neg (by omega)]
      · rw [if_neg e2, if_neg e2]
theorem lk_put (l : List (Int × Int)) (h v j : Int) : lk (putL l h v) j = if j = h then some v else lk l j := by
  unfold putL
  split
  · rename_i e
    rw [lk_any] at e
    obtain ⟨x, hx⟩ := Option.isSome_iff_exists.mp e
    rw [lk_set, hx]
    rfl
  · rename_i e
    rw [lk_any] at e
    rw [lk_app]
    show (lk l j).or (if h = j then some v else none) = _
    by_cases e2 : j = h
    · subst e2
      rw [if_pos rfl, if_pos rfl]
      cases hx : lk l j with
      | none => rfl
      | some x => rw [hx] at e; exact absurd rfl e
    · rw [if_neg e2, if_neg (Ne.symm e2)]
      cases lk l j <;> rfl
theorem lk_mem {h d : Int} : ∀ {l : List (Int × Int)}, lk l h = some d → (h, d) ∈ l
  | [], e => nomatch e
  | p :: l, e => by
    unfold lk at e
    split at e
    · rename_i h1
      cases e
      rw [← h1]
      exact List.mem_cons_self
    · exact List.mem_cons_of_mem _ (lk_mem e)
theorem mem_lk {h : Int} : ∀ {l : List (Int × Int)}, h ∈ l.map (·.1) ↔ (lk l h).isSome = true
  | [] => by
    show h ∈ [] ↔ none.isSome = true
    simp
  | p :: l => by
    rw [List.map_cons, List.mem_cons, mem_lk (l := l)]
    show _ ↔ (if p.1 = h then some p.2 else lk l h).isSome = true
    by_cases e : p.1 = h
    · rw [if_pos e]
      simp [e]
    · rw [if_neg e]
      simp
      intro z
      exact absurd z.symm e
theorem lk_of_mem {h d : Int} : ∀ {l : List (Int × Int)}, (l.map (·.1)).Nodup → (h, d) ∈ l → lk l h = some d
  | p :: l, nd, m => by
    rw [List.map_cons, List.nodup_cons] at nd
    unfold lk
    rcases List.mem_cons.mp m with e | m
    · rw [← e, if_pos rfl]
    · rw [if_neg (fun z => nd.1 (by rw [z]; exact List.mem_map_of_mem (f := (·.1)) m))]
      exact lk_of_mem nd.2 m
theorem putL_keys (l : List (Int × Int)) (h v : Int) : (putL l h v).map (·.1) = if (lk l h).isSome = true then l.map (·.1) else l.map (·.1) ++ [h] := by
  unfold putL
  rw [lk_any]
  split
  · rw [List.map_map]
    refine List.map_congr_left fun p _ => ?_
    show (if p.1 = h then (p.1, v) else p).1 = p.1
    split <;> rfl
  · rw [List.map_append]
    rfl
theorem small_len {ks : List Int} (nd : ks.Nodup) (h : ∀ k ∈ ks, 0 ≤ k ∧ k ≤ 31) : ks.length ≤ 32 := by
  have p : ks.Perm ((((List.range 32).filter fun i : Nat => decide ((i : Int) ∈ ks))).map fun i : Nat => (i : Int)) := by
    refine (List.perm_ext_iff_of_nodup nd ?_).mpr fun k => ?_
    · rw [List.Nodup, List.pairwise_map]
      exact ((List.nodup_range (n := 32)).filter _).imp fun hne z => hne (by omega)
    · rw [List.mem_map]
      constructor
      · intro hk
        have := h k hk
        refine ⟨k.toNat, ?_, by omega⟩
        rw [List.mem_filter, List.mem_range]
        refine ⟨by omega, ?_⟩
        rw [show ((k.toNat : Nat) : Int) = k by omega]
        exact decide_eq_true hk
      · rintro ⟨i, hi, rfl⟩
        rw [List.mem_filter] at hi
        exact of_decide_eq_true hi.2
  rw [p.length_eq, List.length_map]
  exact Nat.le_trans (List.length_filter_le _ _) (by rw [List.length_range]; exact Nat.le_refl _)
def mu (l : List (Int × Int)) : Int := (l.map (·.2)).sum + 1000 * (32 - (l.length : Int))
theorem sum_set (h v d : Int) : ∀ l : List (Int × Int), (l.map (·.1)).Nodup → lk l h = some d → ((l.map fun p => if p.1 = h then (p.1, v) else p).map (·.2)).sum = (l.map (·.2)).sum + v - d
  | p :: l, nd, e => by
    rw [List.map_cons, List.nodup_cons] at nd
    unfold lk at e
    rw [List.map_cons, List.map_cons, List.sum_cons, List.map_cons, List.sum_cons]
    split at e
    · rename_i h1
      cases e
      have : (l.map fun p => if p.1 = h then (p.1, v) else p) = l := by
        conv => rhs; rw [← List.map_id l]
        refine List.map_congr_left fun q hq => ?_
        rw [if_neg (fun z => nd.1 (by rw [h1, ← z]; exact List.mem_map_of_mem (f := (·.1)) hq))]
        rfl
      rw [this, if_pos h1]
      show v + _ = _
      omega
    · rename_i h1
      rw [sum_set h v d l nd.2 e, if_neg h1]
      omega
structure FInv (ws : List Wire) (goal : Int) (l : List (Int × Int)) : Prop where
  nd : (l.map (·.1)).Nodup
  bd : ∀ p ∈ l, 0 ≤ p.1 ∧ p.1 ≤ 31 ∧ 0 ≤ p.2 ∧ p.2 ≤ 10 * (l.length : Int)
  g0 : lk l goal = some 0
  re : ∀ h d, lk l h = some d → h ≠ goal → ∃ o w d', (o, w) ∈ besR ws h ∧ lk l o = some d' ∧ d' + w ≤ d
def ClosedAt (l : List (Int × Int)) (h : Int) (p : Int × Int) : Prop := ∃ dk x, lk l h = some dk ∧ lk l p.1 = some x ∧ x ≤ dk + p.2
theorem FInv.len {ws : List Wire} {goal : Int} {l : List (Int × Int)} (F : FInv ws goal l) : l.length ≤ 32 := by
  have := small_len F.nd (fun k hk => by
    obtain ⟨p, hp, rfl⟩ := List.mem_map.mp hk
    have := F.bd p hp
    omega)
  rwa [List.length_map] at this
theorem sum_nonneg : ∀ l : List Int, (∀ x ∈ l, 0 ≤ x) → 0 ≤ l.sum
  | [], _ => by simp
  | x :: l, h => by
    have := h x List.mem_cons_self
    have := sum_nonneg l fun y hy => h y (List.mem_cons_of_mem _ hy)
    rw [List.sum_cons]
    omega
theorem FInv.mu0 {ws : List Wire} {goal : Int} {l : List (Int × Int)} (F : FInv ws goal l) : 0 ≤ mu l := by
  have h1 := F.len
  have h2 := sum_nonneg (l.map (·.2)) fun x hx => by
    obtain ⟨p, hp, rfl⟩ := List.mem_map.mp hx
    exact (F.bd p hp).2.2.1
  unfold mu
  omega
theorem FInv.step {ws : List Wire} (W : WOk ws) {goal : Int} {l : List (Int × Int)} (F : FInv ws goal l) {h dh o w : Int} (e : lk l h = some dh) (m : (o, w) ∈ besR ws h) (c : lk l o = none ∨ ∃ x, lk l o = some x ∧ dh + w < x) :
    FInv ws goal (putL l o (dh + w)) ∧ mu (putL l o (dh + w)) < mu l ∧ ∀ k, (lk l k).isSome = true → (lk (putL l o (dh + w)) k).isSome = true := by
  have A := W.adj m
  have bh := F.bd _ (lk_mem e)
  dsimp only at bh
  have ll := F.len
  have og : o ≠ goal := by
    rintro rfl
    rw [F.g0] at c
    rcases c with c | ⟨x, hx, hlt⟩
    · cases c
    · cases hx
      omega
  have pl : ((putL l o (dh + w)).length : Int) = if (lk l o).isSome = true then (l.length : Int) else (l.length : Int) + 1 := by
    have := congrArg List.length (putL_keys l o (dh + w))
    rw [List.length_map] at this
    rw [this]
    split <;> simp
  refine ⟨⟨?_, ?_, ?_, ?_⟩, ?_, ?_⟩
  · rw [putL_keys]
    split
    · exact F.nd
    · rename_i hn
      rw [List.nodup_append]
      refine ⟨F.nd, by simp, fun a ha b hb z => ?_⟩
      rw [List.mem_singleton.mp hb] at z
      exact hn (mem_lk.mp (z ▸ ha))
  · intro p hp
    have key : (p = (o, dh + w)) ∨ p ∈ l := by
      unfold putL at hp
      split at hp
      · obtain ⟨q, hq, rfl⟩ := List.mem_map.mp hp
        split
        · rename_i h1
          exact .inl (by rw [h1])
        · exact .inr hq
      · rw [List.mem_append, List.mem_singleton] at hp
        exact hp.symm
    rcases key with rfl | hp
    · dsimp only
      refine ⟨by omega, by omega, by omega, ?_⟩
      rw [pl]
      split
      · rename_i hs
        rcases c with c | ⟨x, hx, hlt⟩
        · rw [c] at hs
          cases hs
        · have := F.bd _ (lk_mem hx)
          dsimp only at this
          omega
      · omega
    · have := F.bd p hp
      rw [pl]
      split <;> omega
  · rw [lk_put, if_neg (Ne.symm og)]
    exact F.g0
  · intro k d hk hg
    rw [lk_put] at hk
    split at hk
    · rename_i hko
      subst hko
      cases hk
      exact ⟨h, w, dh, A.1, by rw [lk_put, if_neg (fun z => A.2.1 z.symm)]; exact e, Int.le_refl _⟩
    · obtain ⟨o2, w2, d2, a, b, c2⟩ := F.re k d hk hg
      by_cases ho : o2 = o
      · subst ho
        refine ⟨o2, w2, dh + w, a, by rw [lk_put, if_pos rfl], ?_⟩
        rcases c with c | ⟨x, hx, hlt⟩
        · rw [b] at c
          cases c
        · rw [b] at hx
          cases hx
          omega
      · exact ⟨o2, w2, d2, a, by rw [lk_put, if_neg ho]; exact b, c2⟩
  · rcases c with c | ⟨x, hx, hlt⟩
    · unfold mu
      rw [pl, c]
      unfold putL
      rw [lk_any, c, if_neg (show ¬ (none : Option Int).isSome = true from Bool.false_ne_true), if_neg (show ¬ (none : Option Int).isSome = true from Bool.false_ne_true), List.map_append, List.sum_append]
      show _ + (dh + w + 0) + _ < _
      omega
    · unfold mu
      rw [pl, hx]
      unfold putL
      rw [lk_any, hx, if_pos (show (some x).isSome = true from rfl), if_pos (show (some x).isSome = true from rfl), sum_set o (dh + w) x l F.nd hx]
      omega
  · intro k hk
    rw [lk_put]
    split
    · rfl
    · exact hk
theorem FInv.dist {ws : List Wire} {goal : Int} {l : List (Int × Int)} (F : FInv ws goal l) (c : ∀ h ∈ l.map (·.1), ∀ p ∈ bes ws h, ClosedAt l h p) : IsDist ws goal (lk l) where
  g0 := F.g0
  pos := fun h d e => by have := F.bd _ (lk_mem e); dsimp only at this; omega
  cl := fun h d o w e m => by
    obtain ⟨dk, x, h1, h2, h3⟩ := c h (mem_lk.mpr (by rw [e]; rfl)) (o, w) (bes_mem.mpr m)
    rw [e] at h1
    cases h1
    exact ⟨x, h2, h3⟩
  re := F.re

end K85
end
section
set_option maxHeartbeats 400000
namespace K85
open PySem PySem.Spec PyProof.Rows
open L2 hiding CX0 E0 pass0
open C8 Evl
/-! ### tactics -/
local macro_rules | `(tactic| walk_at "side") => `(tactic| first | omega | assumption | rfl | decide)
local macro_rules | `(tactic| walk_at "at") => `(tactic| first | (refine at_int ?_ ?_ <;> first | omega | (simp; omega)) | assumption)
local macro_rules | `(tactic| walk_at "rv") => `(tactic| first
  | with_reducible exact rv_I0
  | ((with_reducible apply rv_eq); rfl)
  | ((with_reducible apply rv_ne); rfl)
  | ((with_reducible apply rv_mod); first | omega | decide)
  | ((with_reducible apply rv_mul); omega)
  | ((with_reducible apply rv_div); omega)
  | ((with_reducible apply rv_ixL); · assumption
     · walk_at "at")
  | ((with_reducible apply rv_ixT); · assumption
     · walk_at "at"))
local macro_rules | `(tactic| walk_at "ev") => `(tactic| first
  | ((with_reducible apply ev_var); rfl)
  | with_reducible exact ev_c
  | ((with_reducible apply ev_isN); walk_at "ev")
  | ((with_reducible apply ev_notN); walk_at "ev")
  | ((with_reducible apply ev_op); · walk_at "ev"
     · walk_at "ev"
     · walk_at "rv")
  | ((with_reducible apply ev_un); · walk_at "ev"
     · with_reducible exact ru_neg)
  | ((with_reducible apply ev_chain); · walk_at "ev"
     · walk_at "ev"
     · walk_at "rv"
     · intro _; walk_at "ev"
     · intro _; walk_at "rv")
  | ((with_reducible apply ev_len); · walk_at "ev"
     · assumption)
  | ((with_reducible apply ev_lenT); · walk_at "ev"
     · assumption)
  | ((with_reducible apply ev_andV); · walk_at "ev"
     · intro _; walk_at "ev")
  | with_reducible assumption)
local macro_rules | `(tactic| walk_at "evt") => `(tactic| first
  | ((with_reducible apply et_or); · walk_at "evt"
     · intro _; walk_at "evt")
  | ((with_reducible apply et_and); · walk_at "evt"
     · intro _; walk_at "evt")
  | ((with_reducible apply et_not); walk_at "evt")
  | ((with_reducible apply et_test); walk_at "ev")
  | ((with_reducible apply et_B); walk_at "ev")
  | with_reducible assumption)
local macro_rules | `(tactic| walk_at "bool") => `(tactic| first | rfl | (simp; done) | (simp; omega) | (simp; intros; omega) | grind)
section
variable {K : PySem.W.Frag} {mg : Str → Option Value}
theorem pairs_upd {H : Hp} {d : Addr} {o : HO} (hd : ∀ xs, H d ≠ some (.tup xs)) {xs : List V} {ps : List (Int × Int)} (h : Paired (PairAt H) xs ps) : Paired (PairAt (upd H d o)) xs ps := Paired.mapP h fun v p q => by
  obtain ⟨t, a, b⟩ := q
  exact ⟨t, a, by rw [upd_ne (fun z => hd _ (by rw [← z]; exact b))]; exact b⟩
theorem paired_get {α β : Type} {F : α → β → Prop} : ∀ {l : List α} {m : List β} {i : Nat} {a : α}, Paired F l m → l[i]? = some a → ∃ b, m[i]? = some b ∧ F a b
  | _, _, _, _, .nil, e => by simp at e
  | _, _, 0, _, .cons r _, e => by simp at e; subst e; exact ⟨_, rfl, r⟩
  | _, _, i + 1, _, .cons _ t, e => paired_get (i := i) t (by simpa using e)
theorem paired_len {α β : Type} {F : α → β → Prop} : ∀ {l : List α} {m : List β}, Paired F l m → l.length = m.length
  | _, _, .nil => rfl
  | _, _, .cons _ t => congrArg Nat.succ (paired_len t)
section
variable {σ : L2.St} {H : Hp} {D : Ends} {t0 t1 : TE} {g : TG} {tu : TS} {a : Addr} {h : Int} {ws : List Wire}
/-- for .. in beside(..) -/
theorem s_forBes (h0 : Ev t0 σ H (.ref a)) (h1 : ∀ H1, Ex H H1 → Ev t1 σ H1 (.int h)) (Wa : WiresAt K H a ws) (W : WOk ws) (Pv : Addr → List V → Nat → L2.St → Hp → Prop) (init : ∀ l xs H1, H l = none → Ex H H1 → H1 l = some (.lst xs) → Paired (PairAt H1) xs (bes ws h) → Pv l xs 0 σ H1) (hl : ∀ l xs i σ' H', Pv l xs i σ' H' → H' l = some (.lst xs) ∧ Paired (PairAt H') xs (bes ws h))
    (hs : ∀ l xs i t p σ' H', (bes ws h)[i]? = some p → Pv l xs i σ' H' → H' t = some (.tup [.int p.1, .int p.2]) → g (.ref t) σ' H' fun σ2 H2 => tu { D with nx := Pv l xs (i + 1), ct := Pv l xs (i + 1), bk := D.nx } σ2 H2)
    (hd : ∀ l xs σ' H', xs.length = (bes ws h).length → Pv l xs xs.length σ' H' → D.nx σ' H') : tFor (iList K (tCall (sp_beside K) [] E0 (tCons t0 (tCons t1 tNil)))) g tu D σ H :=
  h0 H (Ex.refl H) _ fun H1 e1 => h1 H1 e1 H1 (Ex.refl H1) _ fun H2 e2 => ⟨a, h, ws, rfl, Wa.ex (e1.trans e2), W, fun l xs H3 hl3 e3 hx px => ⟨l, rfl, ⟨xs, sq_of hx⟩, for_list (D := D) (Pv l xs) (init l xs H3 (fresh_back (e1.trans e2) hl3) ((e1.trans e2).trans e3) hx px) (fun i σ' H' _ p => sq_of (hl l xs i σ' H' p).1)
    (fun i x σ' H' hx p => by
      obtain ⟨b, hb, t, rfl, ht⟩ := paired_get (hl l xs i σ' H' p).2 hx
      exact hs l xs i t b σ' H' hb p ht) (fun σ' H' p => hd l xs σ' H' (paired_len px) p)⟩⟩
/-- list(dict) of ints -/
theorem el_listD {d : Addr} {l : List (Int × Int)} {t : TE} (h0 : Ev t σ H (.ref d)) (hd : H d = some (.dK (farK l))) : EvL (tCB rListD (tCons t tNil)) σ H ((l.map (·.1)).map V.int) := fun H1 e1 Q q =>
  h0 H1 e1 _ fun H2 e2 => ⟨d, _, rfl, (e1.trans e2) _ _ hd, fun p hp => q p _ (fresh_back e2 hp) (e2.trans (Ex.new hp)) (by rw [upd_same]; unfold farK; rw [List.map_map, List.map_map]; rfl)⟩
end
def sp_lengths_to (K : PySem.W.Frag) : Sp := fun vs H Q _ => ∃ (a : Addr) (goal : Int) (ws : List Wire), vs = [.ref a, .int goal] ∧ WiresAt K H a ws ∧ WOk ws ∧ 0 ≤ goal ∧ goal ≤ 31 ∧ ∀ d l H', H d = none → Ex H H' → H' d = some (.dK (farK l)) → FInv ws goal l → IsDist ws goal (lk l) → Q (.ref d) H'
/-- lengths_to -/
def t_lengths_to (K : PySem.W.Frag) : TS :=
    (tSeq (tAsg (tDisp [((tVar 1), (tC (.int 0)))]) (gName 2))
    (tSeq (tAsg (tC (.bl true)) (gName 3))
    (tSeq (tWhile (tB (tVar 3))
    (tSeq (tAsg (tC (.bl false)) (gName 3))
    (tFor (iList K (tCB rListD (tCons (tVar 2) tNil))) (gName 4)
    (tFor (iList K (tCall (sp_beside K) [] C8.E0 (tCons (tVar 0) (tCons (tVar 4) tNil)))) (gTup K 2 (gCons (gName 5) (gCons (gName 6) gNil)))
    (tIfS (tOr (tB (tDNotIn (tVar 5) (tVar 2))) (tTest (tOp rLtI (tOp rAddI (tDGet (tVar 2) (tVar 4)) (tVar 6)) (tDGet (tVar 2) (tVar 5))))) (tSeq (sDPut (tVar 2) (tVar 5) (tOp rAddI (tDGet (tVar 2) (tVar 4)) (tVar 6)))
    (tAsg (tC (.bl true)) (gName 3))) tNext)))))
    (tRet (tVar 2)))))
theorem pure_lengths_to (T : Wd K mg) (vs : List V) (H : Hp) (Q : VK) (E : XK) (h : sp_lengths_to K vs H Q E) : t_lengths_to K { nx := fun _ H' => Q .non H', rt := Q } (start ["wires", "goal", "far", "changed", "house", "other", "length"] vs) H := by
  obtain ⟨a, goal, ws, rfl, WA, W, g0, g1, k⟩ := h
  refine fun d hd => ⟨_, rfl, upd_same, [(Sum.inl goal, .int 0)], rfl, Nat.le_of_ble_eq_true rfl, ?_⟩
  have e1 : Ex H (upd (upd H d (.dK [])) d (.dK (mergeK [] [(Sum.inl goal, .int 0)]))) := Ex.mut (Ex.new hd) hd
  have hd1 : (upd (upd H d (.dK [])) d (.dK (mergeK [] [(Sum.inl goal, .int 0)]))) d = some (.dK (farK [(goal, 0)])) := upd_same
  generalize upd (upd H d (.dK [])) d (.dK (mergeK [] [(Sum.inl goal, .int 0)])) = H1 at *
  dsimp only
  refine q_asg ev_c fun H2 e2 => ?_
  have F0 : FInv ws goal [(goal, 0)] := ⟨by simp, fun p hp => by rw [List.mem_singleton.mp hp]; simp; omega, by unfold lk; rw [if_pos rfl], fun h d e hg => by
    unfold lk at e
    rw [if_neg (Ne.symm hg)] at e
    cases e⟩
  refine q_while (fun m σ' H' => ∃ l c o4 o5 o6, Ex H H' ∧ σ' = [some (.ref a), some (.int goal), some (.ref d), some (.bl c), o4, o5, o6] ∧ H' d = some (.dK (farK l)) ∧ FInv ws goal l ∧ (c = true → m = (mu l).toNat + 1) ∧ (c = false → ∀ h ∈ l.map (·.1), ∀ p ∈ bes ws h, ClosedAt l h p)) ((mu [(goal, 0)]).toNat + 1)
    ⟨[(goal, 0)], true, none, none, none, e1.trans e2, rfl, e2 _ _ hd1, F0, fun _ => rfl, fun h => nomatch h⟩ ?_
  rintro m σ' H' ⟨l0, c0, o4, o5, o6, e, rfl, hfar, F, hm, hc⟩
  refine ⟨c0, et_B (ev_var rfl), fun hc0 H3 e3 => ?_, fun hc0 H3 e3 => ?_⟩
  · refine ⟨fun σ2 H2 => ∃ m', m' < m ∧ ∃ l c o4 o5 o6, Ex H H2 ∧ σ2 = [some (.ref a), some (.int goal), some (.ref d), some (.bl c), o4, o5, o6] ∧ H2 d = some (.dK (farK l)) ∧ FInv ws goal l ∧ (c = true → m' = (mu l).toNat + 1) ∧ (c = false → ∀ h ∈ l.map (·.1), ∀ p ∈ bes ws h, ClosedAt l h p), fun σ2 H2 h => h, ?_⟩
    have hm := hm hc0
    refine q_asg ev_c fun H4 e4 => ?_
    have hf4 := (e3.trans e4) _ _ hfar
    have nt : ∀ {H' : Hp} {l : List (Int × Int)}, H' d = some (.dK (farK l)) → ∀ xs, H' d ≠ some (.tup xs) := fun h xs z => by rw [h] at z; cases z
    refine s_forNL (el_listD (ev_var rfl) hf4) (fun kl i σ' H' => Ex H H' ∧ H' kl = some (.lst ((l0.map (·.1)).map V.int)) ∧ kl ≠ d ∧ ∃ l c o4 o5 o6, σ' = [some (.ref a), some (.int goal), some (.ref d), some (.bl c), o4, o5, o6] ∧ H' d = some (.dK (farK l)) ∧ FInv ws goal l ∧ (∀ k, (lk l0 k).isSome = true → (lk l k).isSome = true) ∧ (c = true → mu l < mu l0) ∧ (c = false → l = l0 ∧ ∀ h ∈ (l0.map (·.1)).take i, ∀ p ∈ bes ws h, ClosedAt l0 h p) ∧ mu l ≤ mu l0)
      (fun kl H5 hk e5 h5 => ⟨((e.trans e3).trans e4).trans e5, h5, (ne_of_none hf4 hk).symm, l0, false, o4, o5, o6, rfl, e5 _ _ hf4, F, fun k h => h, (fun h => nomatch h), (fun _ => ⟨rfl, by simp⟩), Int.le_refl _⟩) (fun kl i σ' H' _ q => sq_of q.2.1) ?_ ?_
    · rintro kl i x σ' H5 hx ⟨e5, hk5, nkd, l, c, o4, o5, o6, rfl, hf5, F5, mono, ct, cf, mle⟩
      rw [List.getElem?_map] at hx
      cases hj : (l0.map (·.1))[i]? with
      | none => rw [hj] at hx; cases hx
      | some hh =>
        rw [hj] at hx
        cases hx
        have hkey : (lk l0 hh).isSome = true := mem_lk.mp (List.mem_of_getElem? hj)
        refine s_forBes (K := K) (a := a) (h := hh) (ws := ws) (ev_var rfl) (fun _ _ => ev_var rfl) (WA.ex e5) W (fun bl xs j σ' H' => Ex H H' ∧ H' kl = some (.lst ((l0.map (·.1)).map V.int)) ∧ kl ≠ d ∧ H' bl = some (.lst xs) ∧ bl ≠ d ∧ Paired (PairAt H') xs (bes ws hh) ∧ ∃ l c o5 o6, σ' = [some (.ref a), some (.int goal), some (.ref d), some (.bl c), some (.int hh), o5, o6] ∧ H' d = some (.dK (farK l)) ∧ FInv ws goal l ∧ (∀ k, (lk l0 k).isSome = true → (lk l k).isSome = true) ∧ (c = true → mu l < mu l0) ∧ (c = false → l = l0 ∧ (∀ h ∈ (l0.map (·.1)).take i, ∀ p ∈ bes ws h, ClosedAt l0 h p) ∧ ∀ p ∈ (bes ws hh).take j, ClosedAt l0 hh p) ∧ mu l ≤ mu l0)
          (fun bl xs H6 hb e6 h6 p6 => ⟨e5.trans e6, e6 _ _ hk5, nkd, h6, (ne_of_none hf5 hb).symm, p6, l, c, o5, o6, rfl, e6 _ _ hf5, F5, mono, ct, (fun hc => ⟨(cf hc).1, (cf hc).2, by simp⟩), mle⟩)
          (fun bl xs j σ' H' q => ⟨q.2.2.2.1, q.2.2.2.2.2.1⟩) ?_ ?_
        · rintro bl xs j t ⟨o, w⟩ σ' H6 hp ⟨e6, hk6, _, hb6, nbd, px, l, c, o5, o6, rfl, hf6, F6, mono, ct, cf, mle⟩ ht
          have adj : (o, w) ∈ besR ws hh := bes_mem.mp (List.mem_of_getElem? hp)
          obtain ⟨dh, hdh⟩ := Option.isSome_iff_exists.mp (mono hh hkey)
          have vh : valV (farK l) (Sum.inl hh : Key) = some (.int dh) := by rw [lk_val, hdh]; rfl
          refine ⟨t, _, rfl, st_of ht, rfl, _, _, rfl, _, _, rfl, rfl, ?_⟩
          dsimp only
          have sum : ∀ H7, Ex H6 H7 → Ev (tOp rAddI (tDGet (tVar 2) (tVar 4)) (tVar 6)) [some (.ref a), some (.int goal), some (.ref d), some (.bl c), some (.int hh), some (.int o), some (.int w)] H7 (.int (dh + w)) := fun H7 e7 => ev_op (ev_dget (k := Sum.inl hh) (ev_var rfl) (ev_var rfl) (e7 _ _ hf6) vh) (ev_var rfl) rv_I0
          have tst : ∃ b : Bool, EvT (tOr (tB (tDNotIn (tVar 5) (tVar 2))) (tTest (tOp rLtI (tOp rAddI (tDGet (tVar 2) (tVar 4)) (tVar 6)) (tDGet (tVar 2) (tVar 5))))) [some (.ref a), some (.int goal), some (.ref d), some (.bl c), some (.int hh), some (.int o), some (.int w)] H6 b ∧ (b = true → lk l o = none ∨ ∃ x, lk l o = some x ∧ dh + w < x) ∧ (b = false → ∃ x, lk l o = some x ∧ x ≤ dh + w) := by
            have nin : EvT (tB (tDNotIn (tVar 5) (tVar 2))) [some (.ref a), some (.int goal), some (.ref d), some (.bl c), some (.int hh), some (.int o), some (.int w)] H6 (!(lk l o).isSome) := fun H7 e7 Q7 q7 => ⟨_, rfl, _, rfl, d, _, rfl, DGet.k (k := Sum.inl o) (e7 _ _ hf6), _, rfl, by
              rw [lk_val, Option.isSome_map]
              exact q7 H7 (Ex.refl H7)⟩
            cases ho : lk l o with
            | none =>
              refine ⟨true, et_is (et_or (a := true) (b := false) (et_is nin (by rw [ho]; rfl)) (fun h => nomatch h)) rfl, fun _ => .inl rfl, fun h => nomatch h⟩
            | some x =>
              have vo : valV (farK l) (Sum.inl o : Key) = some (.int x) := by rw [lk_val, ho]; rfl
              refine ⟨decide (dh + w < x), et_is (et_or (a := false) (et_is nin (by rw [ho]; rfl)) fun _ => et_test (ev_op (sum H6 (Ex.refl H6)) (ev_dget (k := Sum.inl o) (ev_var rfl) (ev_var rfl) hf6 vo) rv_I0)) (by simp), fun h => .inr ⟨x, rfl, of_decide_eq_true h⟩, fun h => ⟨x, rfl, ?_⟩⟩
              have := of_decide_eq_false h
              omega
          obtain ⟨b, hb, bt, bf⟩ := tst
          refine s_when hb (fun h H7 e7 => ?_) fun h H7 e7 => ?_
          · obtain ⟨S1, S2, S3⟩ := F6.step W hdh adj (bt h)
            refine q_dput (k := Sum.inl o) (v := .int (dh + w)) (sum H7 e7) (ev_var rfl) (ev_var rfl) (e7 _ _ hf6) (by have := F6.len; unfold farK; rw [List.length_map]; omega) fun H8 e8 => ?_
            rw [putL_K]
            have e68 := e7.trans e8
            refine s_asg ev_c fun H9 e9 => ?_
            refine ⟨(Ex.mut (e6.trans e68) hd).trans e9, e9 _ _ (by rw [upd_ne nkd]; exact e68 _ _ hk6), nkd, e9 _ _ (by rw [upd_ne nbd]; exact e68 _ _ hb6), nbd, pairs_ex e9 (pairs_upd (nt (e68 _ _ hf6)) (pairs_ex e68 px)), putL l o (dh + w), true, _, _, rfl, e9 _ _ upd_same, S1, fun k hk => S3 k (mono k hk), fun _ => by omega, (fun h => nomatch h), by omega⟩
          · obtain ⟨x, hx, hle⟩ := bf h
            refine ⟨e6.trans e7, e7 _ _ hk6, nkd, e7 _ _ hb6, nbd, pairs_ex e7 px, l, c, _, _, rfl, e7 _ _ hf6, F6, mono, ct, fun hc => ?_, mle⟩
            obtain ⟨h1, h2, h3⟩ := cf hc
            refine ⟨h1, h2, fun p hp' => ?_⟩
            rw [take_snoc hp, List.mem_append, List.mem_singleton] at hp'
            rcases hp' with hp' | rfl
            · exact h3 p hp'
            · rw [h1] at hdh hx
              exact ⟨dh, x, hdh, hx, hle⟩
        · rintro bl xs σ' H6 xl ⟨e6, hk6, _, hb6, nbd, px, l, c, o5, o6, rfl, hf6, F6, mono, ct, cf, mle⟩
          refine ⟨e6, hk6, nkd, l, c, _, _, _, rfl, hf6, F6, mono, ct, fun hc => ?_, mle⟩
          obtain ⟨h1, h2, h3⟩ := cf hc
          refine ⟨h1, fun h' hh' => ?_⟩
          rw [take_snoc hj, List.mem_append, List.mem_singleton] at hh'
          rcases hh' with hh' | rfl
          · exact h2 h' hh'
          · rw [xl, List.take_length] at h3
            exact h3
    · rintro kl σ' H5 ⟨e5, hk5, nkd, l, c, o4, o5, o6, rfl, hf5, F5, mono, ct, cf, mle⟩
      rw [List.length_map, List.take_length] at cf
      have := F5.mu0
      cases c with
      | true =>
        have := ct rfl
        exact ⟨(mu l).toNat + 1, by omega, l, true, _, _, _, e5, rfl, hf5, F5, fun _ => rfl, fun h => nomatch h⟩
      | false =>
        obtain ⟨h1, h2⟩ := cf rfl
        refine ⟨0, by omega, l, false, _, _, _, e5, rfl, hf5, F5, (fun h => nomatch h), fun _ => ?_⟩
        rw [h1]
        exact h2
  · refine s_ret (ev_var rfl) fun H4 e4 => ?_
    exact k d l0 H4 hd ((e.trans e3).trans e4) ((e3.trans e4) _ _ hfar) F (F.dist (hc hc0))
section
variable {P : Program} {w : World} {K : PySem.W.Frag} {mg : Str → Option Value} {base : Heap}
theorem sc_lengths_to : FnScope ["wires", "goal", "far", "changed", "house", "other", "length"] ["wires", "goal"] (defScope s_lengths_to) := ⟨rfl, rfl, rfl, by decide +kernel, rfl, by decide +kernel, by decide +kernel⟩
theorem dr_lengths_to (T : Wd K mg) (c_beside : Cal P w K mg base 1 "beside" (sp_beside K) []) {f : Addr} {cdv : Value} {A : Around} {outer : List Env} {s : Shared} {H : Hp} {E : XK} (hr : Room 1 (A.deeper (envOfC "lengths_to" (defScope s_lengths_to) s.heap.objs.size f cdv))) :
    PSs (cxOf CX0 P w K mg base ["wires", "goal", "far", "changed", "house", "other", "length"] "lengths_to" (defScope s_lengths_to) f cdv A outer s H E).nox (defBody s_lengths_to) (t_lengths_to K) := by
  have nd := sc_lengths_to.nd
  exact (pss_cons (ps_set (i := 2) nd rfl (by first | exact Or.inl rfl | exact Or.inr rfl) (pe_disp (pps_cons (pv 1) pe_int pps_nil) (by rfl) (by rfl) (fun z => by cases z) (by decide)))
    (pss_cons (ps_set (i := 3) nd rfl (by first | exact Or.inl rfl | exact Or.inr rfl) pe_bl)
    (pss_cons (ps_while PassesOwn.never (pt_val (pv 3))
    (pss_cons (ps_set (i := 3) nd rfl (by first | exact Or.inl rfl | exact Or.inr rfl) pe_bl)
    (pss_one (ps_for PassesOwn.never rfl (pi_list (pe_callTy (call_list_dK rfl) (by rfl) (T.free 98) (by decide +kernel) (pa_cons (pv 2) pa_nil))) (pg_name (i := 4) nd rfl (by first | exact Or.inl rfl | exact Or.inr rfl))
    (pss_one (ps_for PassesOwn.never rfl (pi_list (pe_c c_beside hr (by decide) rfl (pa_cons (pv 0) (pa_cons (pv 4) pa_nil)))) (pg_tup rfl (pgs_cons (pg_name (i := 5) nd rfl (by first | exact Or.inl rfl | exact Or.inr rfl)) (pgs_cons (pg_name (i := 6) nd rfl (by first | exact Or.inl rfl | exact Or.inr rfl)) pgs_nil)))
    (pss_one (ps_if (PW.pt (pw_or (pt_cmp (pc_dnotin (hu_of hr) (pv 5) (pv 2))) (pw_or1 (pt_cmpR op_lt (pe_op op_add (pe_dget (hu_of hr) (pv 2) (pv 4) (fun _ _ => rfl)) (pv 6)) (pe_dget (hu_of hr) (pv 2) (pv 5) (fun _ _ => rfl)) (nomark _))))) (pss_cons (ps_dput (hu_of hr) (pv 2) (pv 5) (pe_op op_add (pe_dget (hu_of hr) (pv 2) (pv 4) (fun _ _ => rfl)) (pv 6)) rfl)
    (pss_one (ps_set (i := 3) nd rfl (by first | exact Or.inl rfl | exact Or.inr rfl) pe_bl))) pss_nil))))))))
    (pss_one (ps_ret (pv 2))))))
theorem ok_lengths_to (T : Wd K mg) (c_beside : Cal P w K mg base 1 "beside" (sp_beside K) []) {f : Addr} {fd : FuncData} (F : FunD K ds_lengths_to.name ds_lengths_to.qual ds_lengths_to.params ds_lengths_to.body ds_lengths_to.scope [] [] f fd) : FnOk P w K mg base CX0 2 f fd ["wires", "goal"] (sp_lengths_to K) := by
  refine FunD.ok F sc_lengths_to (fun vs H Q E h => ?_) (fun cdv A outer s H vs Q E hr h => ⟨t_lengths_to K, PSs.nox (dr_lengths_to T c_beside hr), pure_lengths_to T vs H Q E h⟩)
  obtain ⟨_, _, _, e, _⟩ := h
  rw [e]
  all_goals rfl
end
end

end K85
end
section
set_option maxHeartbeats 400000
namespace K85
open PySem PySem.Spec PyProof.Rows
open L2 hiding CX0 E0 pass0
open C8 Evl
/-! ### tactics -/
local macro_rules | `(tactic| walk_at "side") => `(tactic| first | omega | assumption | rfl | decide)
local macro_rules | `(tactic| walk_at "at") => `(tactic| first | (refine at_int ?_ ?_ <;> first | omega | (simp; omega)) | assumption)
local macro_rules | `(tactic| walk_at "rv") => `(tactic| first
  | with_reducible exact rv_I0
  | ((with_reducible apply rv_eq); rfl)
  | ((with_reducible apply rv_ne); rfl)
  | ((with_reducible apply rv_mod); first | omega | decide)
  | ((with_reducible apply rv_mul); omega)
  | ((with_reducible apply rv_div); omega)
  | ((with_reducible apply rv_ixL); · assumption
     · walk_at "at")
  | ((with_reducible apply rv_ixT); · assumption
     · walk_at "at"))
local macro_rules | `(tactic| walk_at "ev") => `(tactic| first
  | ((with_reducible apply ev_var); rfl)
  | with_reducible exact ev_c
  | ((with_reducible apply ev_isN); walk_at "ev")
  | ((with_reducible apply ev_notN); walk_at "ev")
  | ((with_reducible apply ev_op); · walk_at "ev"
     · walk_at "ev"
     · walk_at "rv")
  | ((with_reducible apply ev_un); · walk_at "ev"
     · with_reducible exact ru_neg)
  | ((with_reducible apply ev_chain); · walk_at "ev"
     · walk_at "ev"
     · walk_at "rv"
     · intro _; walk_at "ev"
     · intro _; walk_at "rv")
  | ((with_reducible apply ev_len); · walk_at "ev"
     · assumption)
  | ((with_reducible apply ev_lenT); · walk_at "ev"
     · assumption)
  | ((with_reducible apply ev_andV); · walk_at "ev"
     · intro _; walk_at "ev")
  | with_reducible assumption)
local macro_rules | `(tactic| walk_at "evt") => `(tactic| first
  | ((with_reducible apply et_or); · walk_at "evt"
     · intro _; walk_at "evt")
  | ((with_reducible apply et_and); · walk_at "evt"
     · intro _; walk_at "evt")
  | ((with_reducible apply et_not); walk_at "evt")
  | ((with_reducible apply et_test); walk_at "ev")
  | ((with_reducible apply et_B); walk_at "ev")
  | with_reducible assumption)
local macro_rules | `(tactic| walk_at "bool") => `(tactic| first | rfl | (simp; done) | (simp; omega) | (simp; intros; omega) | grind)
/-! ### ways: plain -/
def candO (g : Int → Option Int) (h : Int) (p : Int × Int) : Option Int := if (g p.1).getD 0 + p.2 = (g h).getD 0 then some p.1 else none
def candM (ws : List Wire) (g : Int → Option Int) (h : Int) : List Int := (bes ws h).filterMap (candO g h)
def nextM (ws : List Wire) (g : Int → Option Int) (h : Int) : Int := (candM ws g h).headD 0
def wayM (ws : List Wire) (g : Int → Option Int) (goal : Int) : Nat → Int → List Int
  | 0, h => [h]
  | n + 1, h => if h = goal then [h] else h :: wayM ws g goal n (nextM ws g h)
theorem cand_next {ws : List Wire} (W : WOk ws) {goal : Int} {g : Int → Option Int} (D : IsDist ws goal g) {h d : Int} (e : g h = some d) (hg : h ≠ goal) : nextM ws g h ∈ candM ws g h ∧ (∀ y ∈ candM ws g h, nextM ws g h ≤ y) ∧ ∃ l d', (nextM ws g h, l) ∈ besR ws h ∧ g (nextM ws g h) = some d' ∧ d = d' + l := by
  have ne : candM ws g h ≠ [] := by
    obtain ⟨o, l, d', m, e', c⟩ := D.re h d e hg
    obtain ⟨d2, h2, h3, h4⟩ := D.eq W e m
    rw [e'] at h2
    cases h2
    have : o ∈ candM ws g h := by
      unfold candM candO
      rw [List.mem_filterMap]
      refine ⟨(o, l), bes_mem.mpr m, ?_⟩
      rw [if_pos]
      rw [e, e']
      show d' + l = d
      omega
    intro z
    rw [z] at this
    cases this
  have srt : (candM ws g h).Pairwise (· < ·) := by
    unfold candM
    rw [List.pairwise_filterMap]
    refine (bes_lt W h).imp fun {a b} hab u hu v hv => ?_
    unfold candO at hu hv
    split at hu
    · split at hv
      · cases hu
        cases hv
        exact hab
      · cases hv
    · cases hu
  cases hc : candM ws g h with
  | nil => exact absurd hc ne
  | cons x xs =>
    have nx : nextM ws g h = x := by unfold nextM; rw [hc]; rfl
    rw [nx]
    rw [hc, List.pairwise_cons] at srt
    refine ⟨List.mem_cons_self, fun y hy => ?_, ?_⟩
    · rcases List.mem_cons.mp hy with rfl | hy
      · exact Int.le_refl _
      · exact Int.le_of_lt (srt.1 y hy)
    · have hx : x ∈ candM ws g h := by rw [hc]; exact List.mem_cons_self
      unfold candM candO at hx
      rw [List.mem_filterMap] at hx
      obtain ⟨⟨o, l⟩, hp, hq⟩ := hx
      split at hq
      · rename_i h1
        cases hq
        have m := bes_mem.mp hp
        obtain ⟨d', h2, h3⟩ := D.cl h d o l e m
        rw [e, h2] at h1
        exact ⟨l, d', m, h2, h1.symm⟩
      · cases hq
noncomputable def heights (ws : List Wire) (goal : Int) : List (Int × Int) := (List.range 32).filterMap fun i : Nat => (dist ws goal (i : Int)).map fun d => ((i : Int), d)
noncomputable def sideL (ws : List Wire) (one : Int) : List Int := (((List.range 32).filter fun i : Nat => (dist ws one (i : Int)).isSome)).map fun i : Nat => (i : Int)
theorem heights_mem {ws : List Wire} {goal : Int} (D : IsDist ws goal (dist ws goal)) {h d : Int} : (h, d) ∈ heights ws goal ↔ dist ws goal h = some d := by
  unfold heights
  rw [List.mem_filterMap]
  constructor
  · rintro ⟨i, _, e⟩
    rw [Option.map_eq_some_iff] at e
    obtain ⟨x, hx, e⟩ := e
    cases e
    exact hx
  · intro e
    have := D.pos h d e
    refine ⟨h.toNat, by rw [List.mem_range]; omega, ?_⟩
    rw [show ((h.toNat : Nat) : Int) = h by omega, e]
    rfl
theorem heights_lt (ws : List Wire) (goal : Int) : (heights ws goal).Pairwise fun a b => a.1 < b.1 := by
  unfold heights
  rw [List.pairwise_filterMap]
  refine (List.pairwise_lt_range (n := 32)).imp fun {a b} hab u hu v hv => ?_
  rw [Option.map_eq_some_iff] at hu hv
  obtain ⟨x, _, rfl⟩ := hu
  obtain ⟨y, _, rfl⟩ := hv
  show (a : Int) < b
  omega
theorem pair_nodup {l : List (Int × Int)} (h : (l.map (·.1)).Nodup) : l.Nodup := by
  rw [List.Nodup, List.pairwise_map] at h
  exact h.imp fun h z => h (by rw [z])
theorem far_srt {ws : List Wire} {goal : Int} {l : List (Int × Int)} (F : FInv ws goal l) (D : IsDist ws goal (lk l)) (e : lk l = dist ws goal) : psrt l = heights ws goal := by
  have ne : l.Pairwise fun a b => a.1 ≠ b.1 := by
    have := F.nd
    rwa [List.Nodup, List.pairwise_map] at this
  refine perm_srt_fst ((psrt_perm l).trans ?_) (psrt_lt ne) (heights_lt ws goal)
  refine (List.perm_ext_iff_of_nodup (pair_nodup F.nd) ((heights_lt ws goal).imp fun h z => by rw [z] at h; omega)).mpr ?_
  rintro ⟨h, d⟩
  rw [heights_mem (e ▸ D), ← e]
  exact ⟨fun m => lk_of_mem F.nd m, fun m => lk_mem m⟩
theorem far_keys {ws : List Wire} {goal : Int} {l : List (Int × Int)} (F : FInv ws goal l) (e : lk l = dist ws goal) {ys : List Int} (p : ys.Perm (l.map (·.1))) (s : ys.Pairwise (· ≤ ·)) : ys = sideL ws goal := by
  refine perm_srt_int (p.trans ?_) s ?_
  · refine (List.perm_ext_iff_of_nodup F.nd ?_).mpr fun h => ?_
    · unfold sideL
      rw [List.Nodup, List.pairwise_map]
      exact ((List.nodup_range (n := 32)).filter _).imp fun hne z => hne (by omega)
    · rw [mem_lk, e]
      unfold sideL
      rw [List.mem_map]
      constructor
      · intro hs
        obtain ⟨d, hd⟩ := Option.isSome_iff_exists.mp hs
        have := F.bd _ (lk_mem (e ▸ hd))
        dsimp only at this
        refine ⟨h.toNat, ?_, by omega⟩
        rw [List.mem_filter, List.mem_range]
        refine ⟨by omega, ?_⟩
        rw [show ((h.toNat : Nat) : Int) = h by omega]
        exact hs
      · rintro ⟨i, hi, rfl⟩
        rw [List.mem_filter] at hi
        exact hi.2
  · unfold sideL
    rw [List.pairwise_map]
    exact (List.Pairwise.filter _ (List.pairwise_lt_range (n := 32))).imp fun h => by omega
def prD (p : Int × Int) : PyData := .tuple [.int p.1, .int p.2]
noncomputable def wayL (ws : List Wire) (one other : Int) : List Int := wayM ws (dist ws other) other ((dist ws other one).getD 0).toNat one
noncomputable def wayD (ws : List Wire) (one other : Int) : PyData := if (dist ws other one).isSome = true then .tuple [.str "way", .tuple ((wayL ws one other).map PyData.int), .list ((heights ws other).map prD)] else .tuple [.str "side", .tuple ((sideL ws one).map PyData.int)]
section
variable {K : PySem.W.Frag} {mg : Str → Option Value}
def RetD (K : PySem.W.Frag) (d : PyData) (H : Hp) (Q : VK) : Prop := ∀ v H2, Ex H H2 → Dp K H2 v d → Q v H2
theorem pairs_dp {H : Hp} : ∀ {xs : List V} {ps : List (Int × Int)}, Paired (PairAt H) xs ps → DpAll K H xs (ps.map prD)
  | _, _, .nil => .nil
  | _, _, .cons h t => by
    obtain ⟨u, rfl, hu⟩ := h
    exact .cons (.tup (st_of hu) (ImAll.dp _ _ (ImAll.ints [_, _]))) (pairs_dp t)
section
variable {σ : L2.St} {H : Hp} {D : Ends} {t0 t1 te : TE} {g : TG} {tt : TT} {a : Addr} {h : Int} {ws : List Wire} {vs : List Nat}
/-- [.. for .. in beside(..) if ..] -/
theorem el_lcBes (f : Int × Int → Option Int) (h0 : Ev t0 σ H (.ref a)) (h1 : ∀ H1, Ex H H1 → Ev t1 σ H1 (.int h)) (Wa : WiresAt K H a ws) (W : WOk ws)
    (hs : ∀ (p : Int × Int) t H', p ∈ bes ws h → Ex H H' → H' t = some (.tup [.int p.1, .int p.2]) → ∀ P : L2.St → Hp → Prop, (∀ σ2, wipe σ2 vs = wipe σ vs → (∃ b, EvT tt σ2 H' b ∧ (b = true → ∃ v, f p = some v ∧ Ev te σ2 H' (.int v)) ∧ (b = false → f p = none)) → P σ2 H') → g (.ref t) (wipe σ vs) H' P) :
    EvL (tLc (iList K (tCall (sp_beside K) [] E0 (tCons t0 (tCons t1 tNil)))) g tt te vs) σ H (((bes ws h).filterMap f).map V.int) := fun H0 e0 Q q =>
  h0 H0 e0 _ fun H1 e1 => h1 H1 (e0.trans e1) H1 (Ex.refl H1) _ fun H2 e2 => ⟨a, h, ws, rfl, Wa.ex ((e0.trans e1).trans e2), W, fun l xs H3 hl3 e3 hx px => ⟨l, rfl, ⟨xs, sq_of hx⟩, fun Dl hD => by
    have e03 : Ex H H3 := (((e0.trans e1).trans e2).trans e3)
    refine lc_list (K := K) (a := l) (xs := xs) (fun i H' => H' l = some (.lst xs) ∧ Paired (PairAt H') xs (bes ws h) ∧ Dl ≠ l ∧ Ex H3 H' ∧ H' Dl = some (.lst ((((bes ws h).take i).filterMap f).map V.int))) ⟨by rw [upd_ne (ne_of_none hx hD)]; exact hx, pairs_ex (Ex.new hD) px, (ne_of_none hx hD).symm, Ex.new hD, upd_same⟩ (fun i H' _ p => sq_of p.1) (fun i x H' hxi p => ?_) fun H' p => ?_
    · obtain ⟨hl, px', nDl, e', hDl⟩ := p
      obtain ⟨b, hb, t, rfl, ht⟩ := paired_get px' hxi
      have bl := bes_len W h
      have il := (List.getElem?_eq_some_iff.mp hb).1
      refine hs b t H' (List.mem_of_getElem? hb) (e03.trans e') ht _ fun σ2 hw hev => ⟨hw, ?_⟩
      obtain ⟨c, hc, hct, hcf⟩ := hev
      refine hc H' (Ex.refl H') _ fun H5 e5 => ?_
      have hn : ∀ H6, Ex H' H6 → (∀ xs, H6 Dl ≠ some (.tup xs)) := fun H6 e6 xs z => by rw [e6 _ _ hDl] at z; cases z
      cases c with
      | true =>
        obtain ⟨v, hv, ev⟩ := hct rfl
        show te σ2 H5 _
        refine ev H5 e5 _ fun H6 e6 => ⟨_, (e5.trans e6) _ _ hDl, sz_lt ?_, by rw [upd_ne nDl.symm]; exact (e5.trans e6) _ _ hl, pairs_upd (hn _ (e5.trans e6)) (pairs_ex (e5.trans e6) px'), nDl, Ex.mut ((e'.trans e5).trans e6) hD, ?_⟩
        · rw [List.length_map]
          have := List.length_filterMap_le f ((bes ws h).take i)
          rw [List.length_take] at this
          omega
        · rw [upd_same, take_snoc hb, List.filterMap_append, List.filterMap_cons, hv, List.map_append]
          rfl
      | false =>
        show _ ∧ _
        refine ⟨e5 _ _ hl, pairs_ex e5 px', nDl, e'.trans e5, ?_⟩
        rw [e5 _ _ hDl, take_snoc hb, List.filterMap_append, List.filterMap_cons, hcf rfl, List.filterMap_nil, List.append_nil]
    · obtain ⟨hl, px', nDl, e', hDl⟩ := p
      rw [paired_len px', List.take_length] at hDl
      exact q Dl H' (fresh_back ((e1.trans e2).trans e3) hD) (((e1.trans e2).trans e3).trans e') hDl⟩⟩
theorem ev_min {ta : TE} {ns : List Int} {m : Int} (ha : EvL ta σ H (ns.map V.int)) (h1 : m ∈ ns) (h2 : ∀ y ∈ ns, m ≤ y) : Ev (tCB (rMin K) (tCons ta tNil)) σ H (.int m) := fun H1 e Q q =>
  ha H1 e _ fun p H2 _ e2 hp => ⟨p, ns, rfl, sq_of hp, List.length_pos_of_mem h1, fun m' h3 h4 => by
    rw [Int.le_antisymm (h4 m h1) (h2 m' h3)]
    exact q H2 e2⟩
theorem atI_last {xs : List V} {v : V} : atI (xs ++ [v]) (-1) = some v := by
  have h : ixN (xs ++ [v]).length (-1) = some xs.length := by
    unfold ixN
    rw [List.length_append, List.length_singleton, if_neg (by omega), if_pos (by omega)]
    congr 1
    omega
  unfold atI
  rw [h]
  simp
theorem ev_last {xs : List V} {v : V} {l : Addr} {i : Nat} (hσ : σ[i]? = some (some (.ref l))) (hl : SqL K H l (xs ++ [v])) : Ev (tOp (rIxL K) (tVar i) (tUn rNegI (tC (.int 1)))) σ H v := ev_op (ev_var hσ) (ev_un ev_c ru_neg) (rv_ixL hl atI_last)
end
def sp_way_of (K : PySem.W.Frag) : Sp := fun vs H Q _ => ∃ (p d : Addr) (kvs : List (Key × V)) (ks : List Int) (f : MF) (one other : Int), vs = [.ref p, .int one, .int other] ∧ MapAt K H p d kvs ks f ∧ 0 ≤ one ∧ one ≤ 31 ∧ 0 ≤ other ∧ other ≤ 31 ∧ RetD K (wayD (wiresM f) one other) H Q
/-- way_of -/
def t_way_of (K : PySem.W.Frag) : TS :=
    (tSeq (tAsg (tMeth (He.ga K "Map") "wires" (sp_Map_wires K) [] C8.E0 (tVar 0) tNil) (gName 3))
    (tSeq (tAsg (tCall (sp_lengths_to K) [] C8.E0 (tCons (tVar 3) (tCons (tVar 2) tNil))) (gName 4))
    (tSeq (tIfS (tB (tDNotIn (tVar 1) (tVar 4))) (tRet (tTup (tCons (tC (.str "side")) (tCons (tCB (rTupS K) (tCons (tCB rSortedDI (tCons (tCall (sp_lengths_to K) [] C8.E0 (tCons (tVar 3) (tCons (tVar 1) tNil))) tNil)) tNil)) tNil)))) tNext)
    (tSeq (tAsg (tLst (tCons (tVar 1) tNil)) (gName 5))
    (tSeq (tWhile (tTest (tOp rNe (tOp (rIxL K) (tVar 5) (tUn rNegI (tC (.int 1)))) (tVar 2)))
    (tDrop (tBM K "list" rAppend (tVar 5) (tCons (tCB (rMin K) (tCons (tLc (iList K (tCall (sp_beside K) [] C8.E0 (tCons (tVar 3) (tCons (tOp (rIxL K) (tVar 5) (tUn rNegI (tC (.int 1)))) tNil)))) (gTup K 2 (gCons (gName 6) (gCons (gName 7) gNil))) (tTest (tOp rEq (tOp rAddI (tDGet (tVar 4) (tVar 6)) (tVar 7)) (tDGet (tVar 4) (tOp (rIxL K) (tVar 5) (tUn rNegI (tC (.int 1))))))) (tVar 6) [6, 7]) tNil)) tNil))))
    (tRet (tTup (tCons (tC (.str "way")) (tCons (tCB (rTupS K) (tCons (tVar 5) tNil)) (tCons (tCB (rSortedPO K) (tCons (tLockE (tLc (iKeys (tVar 4)) (gName 6) tYes (tTup (tCons (tVar 6) (tCons (tDGet (tVar 4) (tVar 6)) tNil))) [6])) tNil)) tNil))))))))))
theorem pure_way_of (T : Wd K mg) (vs : List V) (H : Hp) (Q : VK) (E : XK) (h : sp_way_of K vs H Q E) : t_way_of K { nx := fun _ H' => Q .non H', rt := Q } (start ["known", "one", "other", "wires", "far", "way", "house", "length"] vs) H := by
  obtain ⟨p, dd, kvs, ks, f, one, other, rfl, M, o0, o1, p0, p1, k⟩ := h
  have W : WOk (wiresM f) := wiresM_ok fun i N e => ⟨(M.yes i N e).1, (M.yes i N e).2.1⟩
  obtain ⟨dx, hp⟩ := M.ins
  refine ⟨.ref p, rfl, p, dx, _, rfl, hp, rfl, p, dd, kvs, ks, f, rfl, M, fun wl xs H1 hw e1 h1 i1 => ?_⟩
  have WA : WiresAt K H1 wl (wiresM f) := ⟨xs, sq_of h1, i1⟩
  dsimp only
  generalize wiresM f = ws at *
  refine ⟨_, rfl, _, rfl, wl, other, ws, rfl, WA, W, p0, p1, fun d l H2 hd e2 hfar F D => ?_⟩
  have eg := dist_eq W D
  have WA2 := WA.ex e2
  dsimp only
  have hnin : EvT (tB (tDNotIn (tVar 1) (tVar 4))) [some (.ref p), some (.int one), some (.int other), some (.ref wl), some (.ref d), none, none, none] H2 (!(lk l one).isSome) := fun H7 e7 Q7 q7 => ⟨_, rfl, _, rfl, d, _, rfl, DGet.k (k := Sum.inl one) (e7 _ _ hfar), _, rfl, by
    rw [lk_val, Option.isSome_map]
    exact q7 H7 (Ex.refl H7)⟩
  cases ho : lk l one with
  | none =>
    have wd : wayD ws one other = .tuple [.str "side", .tuple ((sideL ws one).map PyData.int)] := by
      unfold wayD
      rw [← eg, ho, if_neg (show ¬ (none : Option Int).isSome = true from Bool.false_ne_true)]
    refine q_when (b := true) (et_is hnin (by rw [ho]; rfl)) (fun _ H3 e3 => ?_) (fun h => nomatch h)
    refine ⟨_, rfl, _, rfl, wl, one, ws, rfl, WA2.ex e3, W, o0, o1, fun d4 l4 H4 hd4 e4 hf4 F4 D4 => ?_⟩
    have eg4 := dist_eq W D4
    refine ⟨d4, _, l4.map (·.1), rfl, .inl hf4, by unfold farK; rw [List.map_map, List.map_map]; rfl, by have := F4.len; rw [List.length_map]; omega, fun ys q pm sr hq => ?_⟩
    rw [far_keys F4 eg4 pm sr]
    refine ⟨q, _, rfl, .inl ⟨sq_of upd_same, fun r hr => ⟨sz_of (Nat.le_of_ble_eq_true rfl), fun s hs => ?_⟩⟩⟩
    refine k _ _ (((((e1.trans e2).trans e3).trans e4).trans (Ex.new hq)).trans ((Ex.new hr).trans (Ex.new hs))) ?_
    rw [wd]
    exact .tup (st_of upd_same) (.cons (.str _) (.cons (.tup (st_of (Ex.new hs _ _ upd_same)) (ImAll.dp _ _ (ImAll.ints _))) .nil))
  | some d0 =>
    have D' : IsDist ws other (dist ws other) := eg ▸ D
    have b0 := F.bd _ (lk_mem ho)
    have fl := F.len
    dsimp only at b0
    have wd : wayD ws one other = .tuple [.str "way", .tuple ((wayM ws (lk l) other d0.toNat one).map PyData.int), .list ((psrt l).map prD)] := by
      unfold wayD wayL
      rw [far_srt F D eg, ← eg, ho, if_pos (show (some d0).isSome = true from rfl)]
      rfl
    refine q_when (b := false) (et_is hnin (by rw [ho]; rfl)) (fun h => nomatch h) fun _ H3 e3 => ?_
    refine q_asgL (xs := [.int one]) (el_lst (ea_cons (ev_var rfl) ea_nil) (Nat.le_of_ble_eq_true rfl)) fun wy H4 hwy e4 h4 => ?_
    have hf4 := (e3.trans e4) _ _ hfar
    have WA4 := (WA2.ex e3).ex e4
    refine q_while (fun m σ' H' => ∃ pre last dl n, Ex H4 (upd H' wy (.lst [.int one])) ∧ Ex H3 H' ∧ (∃ o6 o7, σ' = [some (.ref p), some (.int one), some (.int other), some (.ref wl), some (.ref d), some (.ref wy), o6, o7]) ∧ H' wy = some (.lst ((pre ++ [last]).map V.int)) ∧ lk l last = some dl ∧ dl.toNat = m ∧ m ≤ n ∧ pre ++ wayM ws (lk l) other n last = wayM ws (lk l) other d0.toNat one ∧ pre.length + m ≤ 400) d0.toNat
      ⟨[], one, d0, d0.toNat, fun x o hx => by
        by_cases z : x = wy
        · rw [z, upd_same]; rw [z, h4] at hx; exact hx
        · rw [upd_ne z]; exact hx, e4, ⟨none, none, rfl⟩, h4, ho, rfl, Nat.le_refl _, rfl, by simp; omega⟩ ?_
    rintro m σ' H' ⟨pre, last, dl, n, _, e', ⟨o6, o7, rfl⟩, hy, hlast, rfl, hmn, hway, hsz⟩
    have hf' := e' _ _ (e3 _ _ hfar)
    have WA' := (WA2.ex e3).ex e'
    have posl := D.pos _ _ hlast
    have hy' : ∀ H6, Ex H' H6 → SqL K H6 wy (pre.map V.int ++ [.int last]) := fun H6 e6 => by
      have := e6 _ _ hy
      rw [List.map_append] at this
      exact sq_of this
    refine ⟨!decide (last = other), et_is (et_test (ev_op (ev_last (i := 5) rfl (hy' H' (Ex.refl H'))) (ev_var rfl) (rv_ne rfl))) (by simp), fun hb H5 e5 => ?_, fun hb H5 e5 => ?_⟩
    · have hne : last ≠ other := by simpa using hb
      obtain ⟨c1, c2, ll, d', c3, c4, c5⟩ := cand_next W D hlast hne
      have A := W.adj c3
      have posn := D.pos _ _ c4
      refine ⟨fun σ2 H2 => ∃ m', m' < dl.toNat ∧ _, fun σ2 H2 h => h, ?_⟩
      have hy5 := e5 _ _ hy
      refine s_app (v := .int (nextM ws (lk l) last)) hy5 (ev_var rfl) (ev_min (ns := candM ws (lk l) last) ?_ c1 c2) (by rw [List.length_map, List.length_append]; simp; omega) fun H6 e6 => ?_
      · refine el_lcBes (candO (lk l) last) (ev_var rfl) (fun H6 e6 => ev_last (i := 5) rfl (hy' H6 (e5.trans e6))) (WA'.ex e5) W fun q t H6 hq e6 ht P hP => ?_
        have am := bes_mem.mp hq
        obtain ⟨dq, hdq, _⟩ := D.cl last dl q.1 q.2 hlast am
        refine ⟨t, _, rfl, st_of ht, rfl, _, _, rfl, _, _, rfl, rfl, ?_⟩
        refine hP _ rfl ⟨decide (dq + q.2 = dl), ?_, fun hb => ⟨q.1, ?_, ev_var rfl⟩, fun hb => ?_⟩
        · have v1 : valV (farK l) (Sum.inl q.1 : Key) = some (.int dq) := by rw [lk_val, hdq]; rfl
          have v2 : valV (farK l) (Sum.inl last : Key) = some (.int dl) := by rw [lk_val, hlast]; rfl
          have hf6 := (e5.trans e6) _ _ hf'
          exact et_is (et_test (ev_op (ev_op (ev_dget (k := Sum.inl q.1) (ev_var rfl) (ev_var rfl) hf6 v1) (ev_var rfl) rv_I0) (ev_dget (k := Sum.inl last) (ev_var rfl) (ev_last (i := 5) rfl (hy' H6 (e5.trans e6))) hf6 v2) (rv_eq rfl))) (by simp)
        · unfold candO
          rw [hdq, hlast]
          exact if_pos (of_decide_eq_true hb)
        · unfold candO
          rw [hdq, hlast]
          exact if_neg (of_decide_eq_false hb)
      · refine ⟨d'.toNat, by omega, pre ++ [last], nextM ws (lk l) last, d', n - 1, ?_, ?_, ⟨_, _, rfl⟩, ?_, c4, rfl, by omega, ?_, ?_⟩
        · intro x o hx
          by_cases z : x = wy
          · rw [z, upd_same]; rw [z, h4] at hx; exact hx
          · rw [upd_ne z, upd_ne z]
            refine (e5.trans e6) _ _ ?_
            have : Ex H4 (upd H' wy (.lst [.int one])) := by assumption
            have := this _ _ hx
            rwa [upd_ne z] at this
        · exact Ex.mut ((e'.trans e5).trans e6) hwy
        · rw [upd_same]
          simp
        · rw [← hway]
          cases n with
          | zero => omega
          | succ n =>
            show _ ++ _ = _ ++ (if last = other then _ else _)
            rw [if_neg hne, List.append_assoc]
            rfl
        · rw [List.length_append]
          show _ + 1 + _ ≤ _
          omega
    · have heq : last = other := by simpa using hb
      have hw : wayM ws (lk l) other d0.toNat one = pre ++ [last] := by
        rw [← hway]
        congr 1
        cases n with
        | zero => rfl
        | succ n =>
          show (if last = other then _ else _) = _
          rw [if_pos heq]
      have hy5 := e5 _ _ hy
      have hf5 := e5 _ _ hf'
      have e35 := e'.trans e5
      refine ⟨_, rfl, wy, _, rfl, .inl ⟨sq_of hy5, fun tw htw => ?_⟩⟩
      have e6 : Ex H5 (upd H5 tw (.tup ((pre ++ [last]).map V.int))) := Ex.new htw
      have ht6 : (upd H5 tw (.tup ((pre ++ [last]).map V.int))) tw = some (.tup ((pre ++ [last]).map V.int)) := upd_same
      generalize upd H5 tw (.tup ((pre ++ [last]).map V.int)) = H6 at *
      have hf6 := e6 _ _ hf5
      refine ⟨d, .dK (farK l), hf6, trivial, fun od => ⟨_, rfl, d, od, rfl, .inl ⟨farK l, upd_same, fun Dl hDl => ?_⟩⟩⟩
      have nDd : Dl ≠ d := fun z => by rw [z, upd_same] at hDl; cases hDl
      have hDl6 : H6 Dl = none := by rwa [upd_ne nDd] at hDl
      have kl : (farK l).length = l.length := by unfold farK; rw [List.length_map]
      refine ⟨fun i m Hx => m = l.length - i ∧ i ≤ l.length ∧ Bt [d] H6 Hx ∧ Hx d = some (.frz od (.dK (farK l))) ∧ ∃ ys, Hx Dl = some (.lst ys) ∧ Paired (PairAt Hx) ys (l.take i), ⟨l.length, rfl, Nat.zero_le _, Bt.upd (Bt.upd (Bt.refl _ _) (.inl (by simp))) (.inr hDl6), by rw [upd_ne nDd.symm]; exact upd_same, [], upd_same, .nil⟩, ?_⟩
      rintro i m Hx ⟨rfl, hi, bx, hfx, ys, hys, pys⟩
      by_cases hlt : i < l.length
      · refine .inr ⟨⟨hfx, by rw [kl]; exact hlt⟩, fun Hx => i + 1 ≤ l.length ∧ Bt [d] H6 Hx ∧ Hx d = some (.frz od (.dK (farK l))) ∧ ∃ ys, Hx Dl = some (.lst ys) ∧ Paired (PairAt Hx) ys (l.take (i + 1)), fun Hz hz => ⟨l.length - (i + 1), by omega, rfl, hz⟩, ?_⟩
        rintro x Hz ⟨rfl, kk, vv, hkv, rfl⟩
        obtain ⟨q, hq, hkq⟩ : ∃ q, l[i]? = some q ∧ (Sum.inl q.1, V.int q.2) = (kk, vv) := by
          unfold farK at hkv
          rw [List.getElem?_map, Option.map_eq_some_iff] at hkv
          exact hkv
        cases hkq
        have vq : valV (farK l) (Sum.inl q.1 : Key) = some (.int q.2) := by
          rw [lk_val, lk_of_mem F.nd (List.mem_of_getElem? (by rw [hq]))]
          rfl
        refine ⟨rfl, _, rfl, _, rfl, _, rfl, d, .int q.2, rfl, .inl ⟨farK l, Sum.inl q.1, .inr ⟨od, hfx⟩, rfl, vq.symm⟩, sz_of (Nat.le_of_ble_eq_true rfl), fun tt htt => ?_⟩
        have hyl := paired_len pys
        rw [List.length_take] at hyl
        have ntd : d ≠ tt := ne_of_none hfx htt
        have ntD : Dl ≠ tt := ne_of_none hys htt
        refine ⟨ys, by rw [upd_ne ntD]; exact hys, sz_lt (by omega), by omega, ?_, ?_, _, upd_same, ?_⟩
        · refine Bt.upd (Bt.upd bx (.inr ?_)) (.inr hDl6)
          cases hz : H6 tt with
          | none => rfl
          | some o =>
            have := bx tt o (by simpa using ntd.symm) hz
            rw [htt] at this
            cases this
        · rw [upd_ne nDd.symm, upd_ne ntd]
          exact hfx
        · rw [take_snoc hq]
          exact Paired.snoc (pairs_upd (fun xs z => by rw [upd_ne ntD, hys] at z; cases z) (pairs_ex (Ex.new htt) pys)) ⟨tt, rfl, by rw [upd_ne ntD.symm]; exact upd_same⟩
      · have hi' : i = l.length := by omega
        subst hi'
        rw [List.take_length] at pys
        refine .inl ⟨⟨hfx, by rw [kl]; exact Nat.le_refl _⟩, hfx, ?_⟩
        have eL : Ex H6 (upd Hx d (.dK (farK l))) := fun x o hx => by
          by_cases z : x = d
          · rw [z, upd_same]; rw [z, hf6] at hx; exact hx
          · rw [upd_ne z]; exact bx x o (by simpa using z) hx
        have hDL : (upd Hx d (.dK (farK l))) Dl = some (.lst ys) := by rw [upd_ne nDd]; exact hys
        have pL : Paired (PairAt (upd Hx d (.dK (farK l)))) ys l := pairs_upd (fun xs z => by rw [hfx] at z; cases z) pys
        generalize upd Hx d (.dK (farK l)) = HL at *
        have ne : l.Pairwise fun a b => a.1 ≠ b.1 := by
          have := F.nd
          rwa [List.Nodup, List.pairwise_map] at this
        suffices key : rSortedPO K [V.ref Dl] HL (fun x H2 => ([V.str "way", V.ref tw, x] : List V).length ≤ sizeLine ∧ ∀ p, H2 p = none → Q (.ref p) (upd H2 p (.tup [.str "way", .ref tw, x]))) from key
        refine sortPO (sq_of hDL) pL ne fun zs q pz hq => ⟨sz_of (Nat.le_of_ble_eq_true rfl), fun s hs => ?_⟩
        have e9 : Ex HL (upd (upd HL q (.lst zs)) s (.tup [.str "way", .ref tw, .ref q])) := (Ex.new hq).trans (Ex.new hs)
        refine k _ _ ((((((e1.trans e2).trans e3).trans e35).trans e6).trans eL).trans e9) ?_
        rw [wd, hw]
        refine .tup (st_of upd_same) (.cons (.str _) (.cons (.tup (st_of ((eL.trans e9) _ _ ht6)) (ImAll.dp _ _ (ImAll.ints _))) (.cons (.lst (sq_of (Ex.new hs _ _ upd_same)) (pairs_dp (pairs_ex e9 pz))) .nil)))
section
variable {P : Program} {w : World} {K : PySem.W.Frag} {mg : Str → Option Value} {base : Heap}
theorem sc_way_of : FnScope ["known", "one", "other", "wires", "far", "way", "house", "length"] ["known", "one", "other"] (defScope s_way_of) := ⟨rfl, rfl, rfl, by decide +kernel, rfl, by decide +kernel, by decide +kernel⟩
theorem dr_way_of (T : Wd K mg) (c_Map_wires : Met P w K mg base 2 (He.ga K "Map") "wires" (sp_Map_wires K) []) (c_lengths_to : Cal P w K mg base 2 "lengths_to" (sp_lengths_to K) []) (c_beside : Cal P w K mg base 1 "beside" (sp_beside K) []) {f : Addr} {cdv : Value} {A : Around} {outer : List Env} {s : Shared} {H : Hp} {E : XK} (hr : Room 2 (A.deeper (envOfC "way_of" (defScope s_way_of) s.heap.objs.size f cdv))) :
    PSs (cxOf CX0 P w K mg base ["known", "one", "other", "wires", "far", "way", "house", "length"] "way_of" (defScope s_way_of) f cdv A outer s H E).nox (defBody s_way_of) (t_way_of K) := by
  have nd := sc_way_of.nd
  exact (pss_cons (ps_set (i := 3) nd rfl (by first | exact Or.inl rfl | exact Or.inr rfl) (pe_mt0 c_Map_wires hr (by decide) (pv 0)))
    (pss_cons (ps_set (i := 4) nd rfl (by first | exact Or.inl rfl | exact Or.inr rfl) (pe_c c_lengths_to hr (by decide) rfl (pa_cons (pv 3) (pa_cons (pv 2) pa_nil))))
    (pss_cons (ps_if (pt_cmp (pc_dnotin (hu_of hr) (pv 1) (pv 4))) (pss_one (ps_ret (pe_tup (pa_cons pe_str (pa_cons (pe_callTy call_tuple_of (by rfl) (T.free 106) (by decide +kernel) (pa_cons (pe_callB (call_sortedDI rfl) (by rfl) (T.free 104) (by decide +kernel) (pa_cons (pe_c c_lengths_to hr (by decide) rfl (pa_cons (pv 3) (pa_cons (pv 1) pa_nil))) pa_nil)) pa_nil)) pa_nil))))) pss_nil)
    (pss_cons (ps_set (i := 5) nd rfl (by first | exact Or.inl rfl | exact Or.inr rfl) (pe_lst (pa_cons (pv 1) pa_nil)))
    (pss_cons (ps_while PassesOwn.never (pt_cmpR op_ne (pe_ix ix_list (pv 5) (pe_un un_neg pe_int) (fun _ _ => rfl)) (pv 2) (nomark _))
    (pss_one (ps_expr (pe_bm PySem.F.plainAttrs_list PySem.F.slot_list_append PySem.F.type_list_append mt_append (pv 5) (pa_cons (pe_callB (cr_min rfl) (by rfl) (T.free 100) (by decide +kernel) (pa_cons (pe_lc (own := [("house", 6), ("length", 7)]) (g := (gTup K 2 (gCons (gName 6) (gCons (gName 7) gNil)))) (tt := (tTest (tOp rEq (tOp rAddI (tDGet (tVar 4) (tVar 6)) (tVar 7)) (tDGet (tVar 4) (tOp (rIxL K) (tVar 5) (tUn rNegI (tC (.int 1)))))))) rfl nd (pi_list (pe_c c_beside hr (by decide) rfl (pa_cons (pv 3) (pa_cons (pe_ix ix_list (pv 5) (pe_un un_neg pe_int) (fun _ _ => rfl)) pa_nil)))) (blkOk_by (by kernel_rfl)) (fun _ _ _ _ _ => (pg_tup rfl (pgs_cons (pg_name (i := 6) nd rfl (by first | exact Or.inl rfl | exact Or.inr rfl)) (pgs_cons (pg_name (i := 7) nd rfl (by first | exact Or.inl rfl | exact Or.inr rfl)) pgs_nil)))) (fun _ _ _ _ _ => pts_one (pt_cmpR op_eq (pe_op op_add (pe_dget (hu_of hr) (pv 4) (pv 6) (fun _ _ => rfl)) (pv 7)) (pe_dget (hu_of hr) (pv 4) (pe_ix ix_list (pv 5) (pe_un un_neg pe_int) (fun _ _ => rfl)) (fun _ _ => rfl)) (nomark _))) (fun _ _ _ _ _ => (pv 6))) pa_nil)) pa_nil)))))
    (pss_one (ps_ret (pe_tup (pa_cons pe_str (pa_cons (pe_callTy call_tuple_of (by rfl) (T.free 106) (by decide +kernel) (pa_cons (pv 5) pa_nil)) (pa_cons (pe_callB cr_sortedPO (by rfl) (T.free 104) (by decide +kernel) (pa_cons (pe_lock (pe_lc (own := [("house", 6)]) (g := (gName 6)) (tt := tYes) rfl nd (pi_keys (pv 4)) (blkOk_by (by kernel_rfl)) (fun _ _ _ _ _ => (pg_name (i := 6) nd rfl (by first | exact Or.inl rfl | exact Or.inr rfl))) (fun _ _ _ _ _ => pts_nil) (fun _ _ _ _ _ => (pe_tup (pa_cons (pv 6) (pa_cons (pe_dget (hu_of hr) (pv 4) (pv 6) (fun _ _ => rfl)) pa_nil)))))) pa_nil)) pa_nil)))))))))))
theorem ok_way_of (T : Wd K mg) (c_Map_wires : Met P w K mg base 2 (He.ga K "Map") "wires" (sp_Map_wires K) []) (c_lengths_to : Cal P w K mg base 2 "lengths_to" (sp_lengths_to K) []) (c_beside : Cal P w K mg base 1 "beside" (sp_beside K) []) {f : Addr} {fd : FuncData} (F : FunD K ds_way_of.name ds_way_of.qual ds_way_of.params ds_way_of.body ds_way_of.scope [] [] f fd) : FnOk P w K mg base CX0 3 f fd ["known", "one", "other"] (sp_way_of K) := by
  refine FunD.ok F sc_way_of (fun vs H Q E h => ?_) (fun cdv A outer s H vs Q E hr h => ⟨t_way_of K, PSs.nox (dr_way_of T c_Map_wires c_lengths_to c_beside hr), pure_way_of T vs H Q E h⟩)
  obtain ⟨_, _, _, _, _, _, _, e, _⟩ := h
  rw [e]
  all_goals rfl
end
end

end K85
end
section
set_option maxHeartbeats 400000
namespace K85
open PySem PySem.Spec PyProof.Rows
open L2 hiding CX0 E0 pass0
open C8 Evl
/-! ### tactics -/
local macro_rules | `(tactic| walk_at "side") => `(tactic| first | omega | assumption | rfl | decide)
local macro_rules | `(tactic| walk_at "at") => `(tactic| first | (refine at_int ?_ ?_ <;> first | omega | (simp; omega)) | assumption)
local macro_rules | `(tactic| walk_at "rv") => `(tactic| first
  | with_reducible exact rv_I0
  | ((with_reducible apply rv_eq); rfl)
  | ((with_reducible apply rv_ne); rfl)
  | ((with_reducible apply rv_mod); first | omega | decide)
  | ((with_reducible apply rv_mul); omega)
  | ((with_reducible apply rv_div); omega)
  | ((with_reducible apply rv_ixL); · assumption
     · walk_at "at")
  | ((with_reducible apply rv_ixT); · assumption
     · walk_at "at"))
local macro_rules | `(tactic| walk_at "ev") => `(tactic| first
  | ((with_reducible apply ev_var); rfl)
  | with_reducible exact ev_c
  | ((with_reducible apply ev_isN); walk_at "ev")
  | ((with_reducible apply ev_notN); walk_at "ev")
  | ((with_reducible apply ev_op); · walk_at "ev"
     · walk_at "ev"
     · walk_at "rv")
  | ((with_reducible apply ev_un); · walk_at "ev"
     · with_reducible exact ru_neg)
  | ((with_reducible apply ev_chain); · walk_at "ev"
     · walk_at "ev"
     · walk_at "rv"
     · intro _; walk_at "ev"
     · intro _; walk_at "rv")
  | ((with_reducible apply ev_len); · walk_at "ev"
     · assumption)
  | ((with_reducible apply ev_lenT); · walk_at "ev"
     · assumption)
  | ((with_reducible apply ev_andV); · walk_at "ev"
     · intro _; walk_at "ev")
  | with_reducible assumption)
local macro_rules | `(tactic| walk_at "evt") => `(tactic| first
  | ((with_reducible apply et_or); · walk_at "evt"
     · intro _; walk_at "evt")
  | ((with_reducible apply et_and); · walk_at "evt"
     · intro _; walk_at "evt")
  | ((with_reducible apply et_not); walk_at "evt")
  | ((with_reducible apply et_test); walk_at "ev")
  | ((with_reducible apply et_B); walk_at "ev")
  | with_reducible assumption)
local macro_rules | `(tactic| walk_at "bool") => `(tactic| first | rfl | (simp; done) | (simp; omega) | (simp; intros; omega) | grind)
/-! ### the way that is told: plain -/
theorem wayM_head (ws : List Wire) (g : Int → Option Int) (goal : Int) : ∀ (n : Nat) (h : Int), ∃ r, wayM ws g goal n h = h :: r
  | 0, h => ⟨[], rfl⟩
  | n + 1, h => by
    unfold wayM
    split
    · exact ⟨[], rfl⟩
    · exact ⟨_, rfl⟩
def gg (g : Int → Option Int) (x : Int) : Int := (g x).getD 0
theorem wayM_law {ws : List Wire} (W : WOk ws) {goal : Int} {g : Int → Option Int} (D : IsDist ws goal g) : ∀ (n : Nat) (h d : Int), g h = some d → d.toNat ≤ n →
    (wayM ws g goal n h).getLast? = some goal ∧ (∀ x ∈ wayM ws g goal n h, gg g x ≤ d) ∧ (wayM ws g goal n h).Nodup ∧ (wayM ws g goal n h).length ≤ n + 1 ∧
    ∀ k, k + 1 < (wayM ws g goal n h).length → ∃ l, ((wayM ws g goal n h).getD (k + 1) 0, l) ∈ besR ws ((wayM ws g goal n h).getD k 0) ∧ gg g ((wayM ws g goal n h).getD k 0) = gg g ((wayM ws g goal n h).getD (k + 1) 0) + l := by
  have base : ∀ (h d : Int), g h = some d → h = goal → ([h] : List Int).getLast? = some goal ∧ (∀ x ∈ [h], gg g x ≤ d) ∧ ([h] : List Int).Nodup ∧ ([h] : List Int).length ≤ 1 ∧ ∀ k, k + 1 < ([h] : List Int).length → ∃ l, (([h] : List Int).getD (k + 1) 0, l) ∈ besR ws (([h] : List Int).getD k 0) ∧ gg g (([h] : List Int).getD k 0) = gg g (([h] : List Int).getD (k + 1) 0) + l := fun h d e hg => by
    refine ⟨by rw [hg]; rfl, fun x hx => ?_, by simp, by simp, fun k hk => ?_⟩
    · rw [List.mem_singleton.mp hx]
      unfold gg
      rw [e]
      exact Int.le_refl _
    · rw [List.length_singleton] at hk
      omega
  intro n
  induction n with
  | zero =>
    intro h d e hd
    have hg : h = goal := Classical.byContradiction fun hg => by
      obtain ⟨o, l, d', a, b, c⟩ := D.re h d e hg
      have := W.adj a
      have := D.pos _ _ b
      omega
    exact base h d e hg
  | succ n ih =>
    intro h d e hd
    unfold wayM
    by_cases hg : h = goal
    · rw [if_pos hg]
      obtain ⟨a, b, c, f, k⟩ := base h d e hg
      exact ⟨a, b, c, by omega, k⟩
    · rw [if_neg hg]
      obtain ⟨c1, c2, l, d', m, e', s⟩ := cand_next W D e hg
      have A := W.adj m
      have P := D.pos _ _ e'
      obtain ⟨i1, i2, i3, i4, i5⟩ := ih (nextM ws g h) d' e' (by omega)
      obtain ⟨r, hr⟩ := wayM_head ws g goal n (nextM ws g h)
      refine ⟨?_, ?_, ?_, ?_, ?_⟩
      · rw [List.getLast?_cons_of_ne_nil (by rw [hr]; simp)]
        exact i1
      · intro x hx
        rcases List.mem_cons.mp hx with rfl | hx
        · unfold gg
          rw [e]
          exact Int.le_refl _
        · have := i2 x hx
          omega
      · rw [List.nodup_cons]
        refine ⟨fun hm => ?_, i3⟩
        have := i2 h hm
        unfold gg at this
        rw [e] at this
        dsimp only [Option.getD_some] at this
        omega
      · rw [List.length_cons]
        omega
      · intro k hk
        cases k with
        | zero =>
          refine ⟨l, ?_, ?_⟩
          · rw [hr]
            exact m
          · rw [hr]
            show gg g h = gg g (nextM ws g h) + l
            unfold gg
            rw [e, e']
            exact s
        | succ k =>
          have := i5 k (by rw [List.length_cons] at hk; omega)
          exact this
theorem pick_one {o l : Int} : ∀ {ps : List (Int × Int)}, ps.Pairwise (fun a b => a.1 < b.1) → (o, l) ∈ ps → ps.filterMap (fun p => if p.1 = o then some p.2 else none) = [l]
  | p :: ps, hp, hm => by
    rw [List.pairwise_cons] at hp
    rw [List.filterMap_cons]
    rcases List.mem_cons.mp hm with e | hm
    · rw [← e]
      simp only [if_true]
      have : ps.filterMap (fun p => if p.1 = o then some p.2 else none) = [] := by
        rw [List.filterMap_eq_nil_iff]
        intro q hq
        have := hp.1 q hq
        rw [← e] at this
        rw [if_neg (by omega)]
      rw [this]
    · have h1 := hp.1 _ hm
      dsimp only at h1
      rw [if_neg (by omega)]
      exact pick_one hp.2 hm
theorem heights_fst (ws : List Wire) (goal : Int) : (heights ws goal).map (·.1) = sideL ws goal := by
  unfold heights sideL
  induction List.range 32 with
  | nil => rfl
  | cons i is ih =>
    rw [List.filterMap_cons, List.filter_cons]
    cases e : dist ws goal (i : Int) with
    | none =>
      simp only [Option.map_none, Option.isSome_none, Bool.false_eq_true, if_false]
      exact ih
    | some d =>
      simp only [Option.map_some, Option.isSome_some, if_true, List.map_cons]
      rw [ih]
section
variable {K : PySem.W.Frag} {mg : Str → Option Value}
def sp_is_side (K : PySem.W.Frag) : Sp := fun vs H Q _ => ∃ (a s : Addr) (one other : Int) (ws : List Wire) (side : List Int), vs = [.ref a, .int one, .int other, .ref s] ∧ WiresAt K H a ws ∧ ws.length ≤ 1000 ∧ SqT K H s (side.map V.int) ∧ side.Pairwise (· < ·) ∧ (∀ x ∈ side, 0 ≤ x ∧ x ≤ 31) ∧ one ∈ side ∧ other ∉ side ∧ (∀ w ∈ ws, w.1 ∈ side ↔ w.2.1 ∈ side) ∧ RetV (.bl true) H Q
/-- is_side -/
def t_is_side (K : PySem.W.Frag) : TS :=
    (tSeq (tAsg (tUn rNegI (tC (.int 1))) (gName 4))
    (tSeq (tFor (iTup K (tVar 3)) (gName 5)
    (tSeq (tIfS (tOr (tTest (tOp rLeI (tVar 5) (tVar 4))) (tTest (tOp rGtI (tVar 5) (tC (.int 31))))) (tRet (tC (.bl false))) tNext)
    (tAsg (tVar 5) (gName 4))))
    (tSeq (tIfS (tOr (tTest (tOp (rIn K true) (tVar 1) (tVar 3))) (tTest (tOp (rIn K false) (tVar 2) (tVar 3)))) (tRet (tC (.bl false))) tNext)
    (tRet (tOp rEq (tCB (Evl.rLenS K) (tCons (tLc (iList K (tVar 0)) (gName 6) (tTest (tOp rNe (tOp (rIn K false) (tOp (rIxT K) (tVar 6) (tC (.int 0))) (tVar 3)) (tOp (rIn K false) (tOp (rIxT K) (tVar 6) (tC (.int 1))) (tVar 3)))) (tVar 6) [6]) tNil)) (tC (.int 0)))))))
theorem pure_is_side (_ : Wd K mg) (vs : List V) (H : Hp) (Q : VK) (E : XK) (h : sp_is_side K vs H Q E) : t_is_side K { nx := fun _ H' => Q .non H', rt := Q } (start ["wires", "one", "other", "side", "last", "house", "wire"] vs) H := by
  obtain ⟨a, s, one, other, ws, side, rfl, ⟨xs, hxs, hi⟩, wl, hs, up, rng, h1, h2, cl, k⟩ := h
  refine q_asg (v := .int (-1)) (ev_un ev_c ru_neg) fun H1 e1 => ?_
  refine q_forT (ev_var rfl) (ex_t e1 hs) (fun i σ' H' => Ex H H' ∧ ∃ z o5, σ' = [some (.ref a), some (.int one), some (.int other), some (.ref s), some (.int z), o5, none] ∧ (∀ j, j = i → j < side.length → z < side.getD j 0))
    (fun H2 e2 => ⟨e1.trans e2, -1, none, rfl, fun j hj hl => by
      have := rng (side.getD j 0) (by rw [List.getD_eq_getElem?_getD, List.getElem?_eq_getElem hl]; exact List.getElem_mem hl)
      omega⟩) (fun i σ' H' _ q => ex_t q.1 hs) ?_ ?_
  · rintro i x σ' H' hx ⟨e, z, o5, rfl, hz⟩
    rw [List.getElem?_map, Option.map_eq_some_iff] at hx
    obtain ⟨y, hy, rfl⟩ := hx
    have il := (List.getElem?_eq_some_iff.mp hy).1
    have hzi := hz i rfl il
    rw [List.getD_eq_getElem?_getD, hy] at hzi
    dsimp only [Option.getD_some] at hzi
    have r := rng y (List.mem_of_getElem? hy)
    refine q_when (b := false) (et_is (et_or (et_test (ev_op (ev_var rfl) (ev_var rfl) rv_I0)) fun _ => et_test (ev_op (ev_var rfl) ev_c rv_I0)) (by simp; omega)) (fun h => nomatch h) fun _ H2 e2 => ?_
    refine s_asg (ev_var rfl) fun H3 e3 => ⟨(e.trans e2).trans e3, y, _, rfl, fun j hj hl => ?_⟩
    subst hj
    rw [List.getD_eq_getElem?_getD, List.getElem?_eq_getElem hl]
    have := (List.pairwise_iff_getElem.mp up) i (i + 1) il hl (by omega)
    rw [show y = side[i] from (Option.some.inj ((List.getElem?_eq_getElem il).symm.trans hy)).symm]
    exact this
  · rintro σ' H' ⟨e, z, o5, rfl, _⟩
    try dsimp only
    refine q_when (b := false) (et_is (et_or (et_test (ev_op (ev_var rfl) (ev_var rfl) (rv_niT (ex_t e hs) rfl (flat_ints _)))) fun _ => et_test (ev_op (ev_var rfl) (ev_var rfl) (rv_isT (ex_t e hs) rfl (flat_ints _)))) (by rw [in_ints, in_ints]; simp [h1, h2])) (fun h => nomatch h) fun _ H2 e2 => ?_
    have e02 := e.trans e2
    refine s_ret (v := .bl true) (ev_is (ev_op (ev_lenN (xs := given xs.length (fun _ => false) (fun i => .non)) ?_) ev_c (rv_eq rfl)) ?_) fun H3 e3 => k H3 (e02.trans e3)
    · refine el_lcL (fun _ => false) (fun i => .non) (ev_var rfl) (ex_l e02 hxs) (by rw [hi.length, List.length_map]; omega) (fun x => rfl) (fun i x H3 e3 hx => ?_) (fun i x H3 e3 hx hf => nomatch hf)
      obtain ⟨dd, hdd, ix⟩ := hi.get hx
      rw [List.getElem?_map, Option.map_eq_some_iff] at hdd
      obtain ⟨w, hw, rfl⟩ := hdd
      obtain ⟨ta, rfl, hta⟩ := wire_inv (Im.ex (e02.trans e3) ix)
      have c := cl w (List.mem_of_getElem? hw)
      refine et_is (et_test (ev_op (ev_op (ev_op (ev_var rfl) ev_c (rv_ixT hta (at_nat (by decide) rfl))) (ev_var rfl) (rv_isT (ex_t (e02.trans e3) hs) rfl (flat_ints _))) (ev_op (ev_op (ev_var rfl) ev_c (rv_ixT hta (at_nat (by decide) rfl))) (ev_var rfl) (rv_isT (ex_t (e02.trans e3) hs) rfl (flat_ints _))) (rv_ne rfl))) ?_
      rw [in_ints, in_ints]
      simp [c]
    · have : (given xs.length (fun _ => false) (fun i => V.non)) = [] := by
        unfold given
        simp
      rw [this]
      simp
section
variable {P : Program} {w : World} {K : PySem.W.Frag} {mg : Str → Option Value} {base : Heap}
theorem sc_is_side : FnScope ["wires", "one", "other", "side", "last", "house", "wire"] ["wires", "one", "other", "side"] (defScope s_is_side) := ⟨rfl, rfl, rfl, by decide +kernel, rfl, by decide +kernel, by decide +kernel⟩
theorem dr_is_side (T : Wd K mg) {f : Addr} {cdv : Value} {A : Around} {outer : List Env} {s : Shared} {H : Hp} {E : XK} (hr : Room 0 (A.deeper (envOfC "is_side" (defScope s_is_side) s.heap.objs.size f cdv))) :
    PSs (cxOf CX0 P w K mg base ["wires", "one", "other", "side", "last", "house", "wire"] "is_side" (defScope s_is_side) f cdv A outer s H E).nox (defBody s_is_side) (t_is_side K) := by
  have nd := sc_is_side.nd
  exact (pss_cons (ps_set (i := 4) nd rfl (by first | exact Or.inl rfl | exact Or.inr rfl) (pe_un un_neg pe_int))
    (pss_cons (ps_for PassesOwn.never rfl (pi_tup (pv 3)) (pg_name (i := 5) nd rfl (by first | exact Or.inl rfl | exact Or.inr rfl))
    (pss_cons (ps_if (PW.pt (pw_or (pt_cmpR op_le (pv 5) (pv 4) (nomark _)) (pw_or1 (pt_cmpR op_gt (pv 5) (pe_gc rfl (T.int 53)) (nomark _))))) (pss_one (ps_ret pe_bl)) pss_nil)
    (pss_one (ps_set (i := 4) nd rfl (by first | exact Or.inl rfl | exact Or.inr rfl) (pv 5)))))
    (pss_cons (ps_if (PW.pt (pw_or (pt_cmpR op_notIn_seq (pv 1) (pv 3) (by rfl)) (pw_or1 (pt_cmpR op_in_seq (pv 2) (pv 3) (by rfl))))) (pss_one (ps_ret pe_bl)) pss_nil)
    (pss_one (ps_ret (pe_cmpR op_eq (pe_callB call_len_seq (by rfl) (T.free 97) (by decide +kernel) (pa_cons (pe_lc (own := [("wire", 6)]) (g := (gName 6)) (tt := (tTest (tOp rNe (tOp (rIn K false) (tOp (rIxT K) (tVar 6) (tC (.int 0))) (tVar 3)) (tOp (rIn K false) (tOp (rIxT K) (tVar 6) (tC (.int 1))) (tVar 3))))) rfl nd (pi_list (pv 0)) (blkOk_by (by kernel_rfl)) (fun _ _ _ _ _ => (pg_name (i := 6) nd rfl (by first | exact Or.inl rfl | exact Or.inr rfl))) (fun _ _ _ _ _ => pts_one (pt_cmpR op_ne (pe_cmpR op_in_seq (pe_ix ix_tup (pv 6) pe_int (fun _ _ => rfl)) (pv 3) (by rfl)) (pe_cmpR op_in_seq (pe_ix ix_tup (pv 6) pe_int (fun _ _ => rfl)) (pv 3) (by rfl)) (nomark _))) (fun _ _ _ _ _ => (pv 6))) pa_nil)) pe_int (nomark _)))))))
theorem ok_is_side (T : Wd K mg) {f : Addr} {fd : FuncData} (F : FunD K ds_is_side.name ds_is_side.qual ds_is_side.params ds_is_side.body ds_is_side.scope [] [] f fd) : FnOk P w K mg base CX0 1 f fd ["wires", "one", "other", "side"] (sp_is_side K) := by
  refine FunD.ok F sc_is_side (fun vs H Q E h => ?_) (fun cdv A outer s H vs Q E hr h => ⟨t_is_side K, PSs.nox (dr_is_side T  hr), pure_is_side T vs H Q E h⟩)
  obtain ⟨_, _, _, _, _, _, e, _⟩ := h
  rw [e]
  all_goals rfl
end
def sp_way_length (K : PySem.W.Frag) : Sp := fun vs H Q _ => ∃ (a s : Addr) (ws : List Wire) (ys : List Int) (g : Int → Int), vs = [.ref a, .ref s] ∧ WiresAt K H a ws ∧ WOk ws ∧ SqT K H s (ys.map V.int) ∧ 0 < ys.length ∧ ys.length ≤ 1000 ∧ (∀ k, k + 1 < ys.length → ∃ l, (ys.getD (k + 1) 0, l) ∈ besR ws (ys.getD k 0) ∧ g (ys.getD k 0) = g (ys.getD (k + 1) 0) + l) ∧ RetV (.int (g (ys.getD 0 0) - g (ys.getD (ys.length - 1) 0))) H Q
/-- way_length -/
def t_way_length (K : PySem.W.Frag) : TS :=
    (tSeq (tAsg (tC (.int 0)) (gName 2))
    (tSeq (tFor (iRng2 (tCons (tC (.int 1)) (tCons (tCB (Evl.rLenS K) (tCons (tVar 1) tNil)) tNil))) (gName 3)
    (tSeq (tAsg (tLc (iList K (tCall (sp_beside K) [] C8.E0 (tCons (tVar 0) (tCons (tOp (rIxT K) (tVar 1) (tOp rSubI (tVar 3) (tC (.int 1)))) tNil)))) (gTup K 2 (gCons (gName 5) (gCons (gName 6) gNil))) (tTest (tOp rEq (tVar 5) (tOp (rIxT K) (tVar 1) (tVar 3)))) (tVar 6) [5, 6]) (gName 4))
    (tSeq (tIfS (tTest (tOp (rEqD K) (tVar 4) (tLst tNil))) (tRet (tC .non)) tNext)
    (tAsg (tOp rAddI (tVar 2) (tOp (rIxL K) (tVar 4) (tC (.int 0)))) (gName 2)))))
    (tRet (tVar 2))))
theorem pure_way_length (_ : Wd K mg) (vs : List V) (H : Hp) (Q : VK) (E : XK) (h : sp_way_length K vs H Q E) : t_way_length K { nx := fun _ H' => Q .non H', rt := Q } (start ["wires", "way", "total", "k", "found", "house", "length"] vs) H := by
  obtain ⟨a, s, ws, ys, g, rfl, WA, W, hs, y0, y1, ch, kk⟩ := h
  refine q_asg ev_c fun H1 e1 => ?_
  refine q_forR2 (lo := 1) (n := (ys.length : Int)) (ea_cons ev_c (ea_cons (ev_is (ev_lenT (ev_var rfl) (ex_t e1 hs)) (by rw [List.length_map])) ea_nil)) (by omega) (fun i σ' H' => Ex H H' ∧ ∃ o3 o4, σ' = [some (.ref a), some (.ref s), some (.int (g (ys.getD 0 0) - g (ys.getD i 0))), o3, o4, none, none])
    (fun H2 e2 => ⟨e1.trans e2, none, none, by rw [Int.sub_self]; rfl⟩) ?_ ?_
  · rintro i σ' H' hi ⟨e, o3, o4, rfl⟩
    obtain ⟨l, m, gl⟩ := ch i (by omega)
    have at1 : ∀ H2, Ex H H2 → ∀ (σ : L2.St) (te : TE) (j : Nat), j < ys.length → σ[1]? = some (some (.ref s)) → Ev te σ H2 (.int (j : Int)) → Ev (tOp (rIxT K) (tVar 1) te) σ H2 (.int (ys.getD j 0)) := fun H2 e2 σ te j hj hσ ht => ev_op (ev_var hσ) ht (rv_ixT (ex_t e2 hs) (at_nat (by omega) (by
      rw [show ((j : Nat) : Int).toNat = j by omega, List.getElem?_map, List.getD_eq_getElem?_getD, List.getElem?_eq_getElem hj]
      rfl)))
    have ei : (1 : Int) + (i : Int) = ((i + 1 : Nat) : Int) := by omega
    rw [ei]
    refine q_asgL (xs := [.int l]) (el_is (el_lcBes (h := ys.getD i 0) (ws := ws) (fun p => if p.1 = ys.getD (i + 1) 0 then some p.2 else none) (ev_var rfl) (fun H2 e2 => at1 H2 (e.trans e2) _ _ i (by omega) rfl (ev_is (ev_op (ev_var rfl) ev_c rv_I0) (by congr 1; omega))) (WA.ex e) W fun q t H2 hq e2 ht P hP => ?_) ?_) fun fl H2 hfl e2 h2 => ?_
    · refine ⟨t, _, rfl, st_of ht, rfl, _, _, rfl, _, _, rfl, rfl, ?_⟩
      refine hP _ rfl ⟨decide (q.1 = ys.getD (i + 1) 0), et_is (et_test (ev_op (ev_var rfl) (at1 H2 (e.trans e2) _ _ (i + 1) (by omega) rfl (ev_var rfl)) (rv_eq rfl))) (by simp), fun hb => ⟨q.2, if_pos (of_decide_eq_true hb), ev_var rfl⟩, fun hb => if_neg (of_decide_eq_false hb)⟩
    · rw [pick_one (bes_lt W _) (bes_mem.mpr m)]
      rfl
    · dsimp only
      refine q_when (b := false) (et_is (et_test (ev_opL (xs := []) (ev_var rfl) (el_lst ea_nil (Nat.zero_le _)) fun q H3 hq e3 => rv_eqD (dp_lints (ns := [l]) (sq_of (e3 _ _ h2))) (dp_lints (ns := []) (sq_of hq)) (shaped_lints _) (shaped_lints _))) (by rw [eqv_lints]; rfl)) (fun h => nomatch h) fun _ H3 e3 => ?_
      refine s_asg (v := .int (g (ys.getD 0 0) - g (ys.getD (i + 1) 0))) (ev_is (ev_op (ev_var rfl) (ev_op (ev_var rfl) ev_c (rv_ixL (v := .int l) (sq_of (e3 _ _ h2)) (at_nat (by decide) rfl))) rv_I0) (by congr 1; omega)) fun H4 e4 => ?_
      exact ⟨((e.trans e2).trans e3).trans e4, _, _, rfl⟩
  · rintro σ' H' ⟨e, o3, o4, rfl⟩
    rw [show ((ys.length : Int) - 1).toNat = ys.length - 1 by omega]
    try dsimp only
    exact s_ret (ev_var rfl) fun H2 e2 => kk H2 (e.trans e2)
section
variable {P : Program} {w : World} {K : PySem.W.Frag} {mg : Str → Option Value} {base : Heap}
theorem sc_way_length : FnScope ["wires", "way", "total", "k", "found", "house", "length"] ["wires", "way"] (defScope s_way_length) := ⟨rfl, rfl, rfl, by decide +kernel, rfl, by decide +kernel, by decide +kernel⟩
theorem dr_way_length (T : Wd K mg) (c_beside : Cal P w K mg base 1 "beside" (sp_beside K) []) {f : Addr} {cdv : Value} {A : Around} {outer : List Env} {s : Shared} {H : Hp} {E : XK} (hr : Room 1 (A.deeper (envOfC "way_length" (defScope s_way_length) s.heap.objs.size f cdv))) :
    PSs (cxOf CX0 P w K mg base ["wires", "way", "total", "k", "found", "house", "length"] "way_length" (defScope s_way_length) f cdv A outer s H E).nox (defBody s_way_length) (t_way_length K) := by
  have nd := sc_way_length.nd
  exact (pss_cons (ps_set (i := 2) nd rfl (by first | exact Or.inl rfl | exact Or.inr rfl) pe_int)
    (pss_cons (ps_for PassesOwn.never rfl (pi_range2 (by rfl) (T.free 101) (pa_cons pe_int (pa_cons (pe_callB call_len_seq (by rfl) (T.free 97) (by decide +kernel) (pa_cons (pv 1) pa_nil)) pa_nil))) (pg_name (i := 3) nd rfl (by first | exact Or.inl rfl | exact Or.inr rfl))
    (pss_cons (ps_setLc (i := 4) (own := [("house", 5), ("length", 6)]) (g := (gTup K 2 (gCons (gName 5) (gCons (gName 6) gNil)))) (tt := (tTest (tOp rEq (tVar 5) (tOp (rIxT K) (tVar 1) (tVar 3))))) rfl nd rfl rfl (sw_true rfl rfl rfl (by decide +kernel)) (pi_list (pe_c c_beside hr (by decide) rfl (pa_cons (pv 0) (pa_cons (pe_ix ix_tup (pv 1) (pe_op op_sub (pv 3) pe_int) (fun _ _ => rfl)) pa_nil)))) (blkOk_by (by kernel_rfl)) (fun _ _ _ _ _ => (pg_tup rfl (pgs_cons (pg_name (i := 5) nd rfl (by first | exact Or.inl rfl | exact Or.inr rfl)) (pgs_cons (pg_name (i := 6) nd rfl (by first | exact Or.inl rfl | exact Or.inr rfl)) pgs_nil)))) (fun _ _ _ _ _ => pts_one (pt_cmpR op_eq (pv 5) (pe_ix ix_tup (pv 1) (pv 3) (fun _ _ => rfl)) (nomark _))) (fun _ _ _ _ _ => (pv 6)))
    (pss_cons (ps_if (pt_cmpR (op_eqD hr.units) (pv 4) (pe_lst pa_nil) (nomark _)) (pss_one (ps_ret pe_non)) pss_nil)
    (pss_one (ps_set (i := 2) nd rfl (by first | exact Or.inl rfl | exact Or.inr rfl) (pe_op op_add (pv 2) (pe_ix ix_list (pv 4) pe_int (fun _ _ => rfl))))))))
    (pss_one (ps_ret (pv 2)))))
theorem ok_way_length (T : Wd K mg) (c_beside : Cal P w K mg base 1 "beside" (sp_beside K) []) {f : Addr} {fd : FuncData} (F : FunD K ds_way_length.name ds_way_length.qual ds_way_length.params ds_way_length.body ds_way_length.scope [] [] f fd) : FnOk P w K mg base CX0 2 f fd ["wires", "way"] (sp_way_length K) := by
  refine FunD.ok F sc_way_length (fun vs H Q E h => ?_) (fun cdv A outer s H vs Q E hr h => ⟨t_way_length K, PSs.nox (dr_way_length T c_beside hr), pure_way_length T vs H Q E h⟩)
  obtain ⟨_, _, _, _, _, e, _⟩ := h
  rw [e]
  all_goals rfl
end
end

end K85
end
section
set_option maxHeartbeats 400000
namespace K85
open PySem PySem.Spec PyProof.Rows
open L2 hiding CX0 E0 pass0
open C8 Evl
/-! ### tactics -/
local macro_rules | `(tactic| walk_at "side") => `(tactic| first | omega | assumption | rfl | decide)
local macro_rules | `(tactic| walk_at "at") => `(tactic| first | (refine at_int ?_ ?_ <;> first | omega | (simp; omega)) | assumption)
local macro_rules | `(tactic| walk_at "rv") => `(tactic| first
  | with_reducible exact rv_I0
  | ((with_reducible apply rv_eq); rfl)
  | ((with_reducible apply rv_ne); rfl)
  | ((with_reducible apply rv_mod); first | omega | decide)
  | ((with_reducible apply rv_mul); omega)
  | ((with_reducible apply rv_div); omega)
  | ((with_reducible apply rv_ixL); · assumption
     · walk_at "at")
  | ((with_reducible apply rv_ixT); · assumption
     · walk_at "at"))
local macro_rules | `(tactic| walk_at "ev") => `(tactic| first
  | ((with_reducible apply ev_var); rfl)
  | with_reducible exact ev_c
  | ((with_reducible apply ev_isN); walk_at "ev")
  | ((with_reducible apply ev_notN); walk_at "ev")
  | ((with_reducible apply ev_op); · walk_at "ev"
     · walk_at "ev"
     · walk_at "rv")
  | ((with_reducible apply ev_un); · walk_at "ev"
     · with_reducible exact ru_neg)
  | ((with_reducible apply ev_chain); · walk_at "ev"
     · walk_at "ev"
     · walk_at "rv"
     · intro _; walk_at "ev"
     · intro _; walk_at "rv")
  | ((with_reducible apply ev_len); · walk_at "ev"
     · assumption)
  | ((with_reducible apply ev_lenT); · walk_at "ev"
     · assumption)
  | ((with_reducible apply ev_andV); · walk_at "ev"
     · intro _; walk_at "ev")
  | with_reducible assumption)
local macro_rules | `(tactic| walk_at "evt") => `(tactic| first
  | ((with_reducible apply et_or); · walk_at "evt"
     · intro _; walk_at "evt")
  | ((with_reducible apply et_and); · walk_at "evt"
     · intro _; walk_at "evt")
  | ((with_reducible apply et_not); walk_at "evt")
  | ((with_reducible apply et_test); walk_at "ev")
  | ((with_reducible apply et_B); walk_at "ev")
  | with_reducible assumption)
local macro_rules | `(tactic| walk_at "bool") => `(tactic| first | rfl | (simp; done) | (simp; omega) | (simp; intros; omega) | grind)
theorem dist_ex {ws : List Wire} (W : WOk ws) {goal : Int} : ∀ (n : Nat) (l : List (Int × Int)), FInv ws goal l → (mu l).toNat < n → ∃ g, IsDist ws goal g
  | 0, _, _, h => absurd h (Nat.not_lt_zero _)
  | n + 1, l, F, h => by
    by_cases c : ∀ h ∈ l.map (·.1), ∀ p ∈ bes ws h, ClosedAt l h p
    · exact ⟨_, F.dist c⟩
    · obtain ⟨k, ck⟩ := Classical.not_forall.mp c
      obtain ⟨hk, ck⟩ := Classical.not_forall.mp ck
      obtain ⟨p, ck⟩ := Classical.not_forall.mp ck
      obtain ⟨hp, ck⟩ := Classical.not_forall.mp ck
      obtain ⟨dk, hdk⟩ := Option.isSome_iff_exists.mp (mem_lk.mp hk)
      have cc : lk l p.1 = none ∨ ∃ x, lk l p.1 = some x ∧ dk + p.2 < x := by
        cases e : lk l p.1 with
        | none => exact .inl rfl
        | some x =>
          refine .inr ⟨x, rfl, Classical.byContradiction fun hn => ck ⟨dk, x, hdk, e, by omega⟩⟩
      obtain ⟨S1, S2, _⟩ := F.step W hdk (bes_mem.mp hp) cc
      have := S1.mu0
      exact dist_ex W n _ S1 (by omega)
theorem dist_is {ws : List Wire} (W : WOk ws) {goal : Int} (g0 : 0 ≤ goal) (g1 : goal ≤ 31) : IsDist ws goal (dist ws goal) := by
  have F0 : FInv ws goal [(goal, 0)] := ⟨by simp, fun p hp => by rw [List.mem_singleton.mp hp]; simp; omega, by unfold lk; rw [if_pos rfl], fun h d e hg => by
    unfold lk at e
    rw [if_neg (Ne.symm hg)] at e
    cases e⟩
  have h : ∃ g, IsDist ws goal g := dist_ex W _ _ F0 (Nat.lt_succ_self _)
  unfold dist
  rw [dif_pos h]
  exact Classical.choose_spec h
section
variable {K : PySem.W.Frag} {mg : Str → Option Value}
theorem pr_inv {H : Hp} {v : V} {p : Int × Int} (h : Im K H v (prD p)) : ∃ t, v = .ref t ∧ SqT K H t [.int p.1, .int p.2] := by
  obtain ⟨a, xs, rfl, hp, hi⟩ := Im.tup_inv h
  have := ImAll.ints_eq (ns := [p.1, p.2]) hi
  subst this
  exact ⟨a, rfl, hp⟩
theorem dp_ints : ∀ {ns : List Int} {H : Hp} {xs : List V}, DpAll K H xs (ns.map PyData.int) → xs = ns.map V.int
  | [], _, _, h => by cases h; rfl
  | n :: ns, _, _, h => by
    cases h with
    | cons h t => cases h; rw [dp_ints t]; rfl
theorem dp_prs {H : Hp} : ∀ {ps : List (Int × Int)} {xs : List V}, DpAll K H xs (ps.map prD) → ImAll K H xs (ps.map prD)
  | [], _, h => by cases h; exact .nil
  | p :: ps, _, h => by
    cases h with
    | cons h t =>
      cases h with
      | tup h a =>
        have := dp_ints (ns := [p.1, p.2]) a
        subst this
        exact .cons (.tup h (ImAll.ints [p.1, p.2])) (dp_prs t)
section
variable {σ : L2.St} {H : Hp} {t0 t1 : TE} {a : Addr} {goal : Int} {ws : List Wire}
theorem el_sortLen (h0 : Ev t0 σ H (.ref a)) (h1 : Ev t1 σ H (.int goal)) (WA : WiresAt K H a ws) (W : WOk ws) (g0 : 0 ≤ goal) (g1 : goal ≤ 31) : EvL (tCB rSortedDI (tCons (tCall (sp_lengths_to K) [] E0 (tCons t0 (tCons t1 tNil))) tNil)) σ H ((sideL ws goal).map V.int) := fun H1 e1 Q q =>
  h0 H1 e1 _ fun H2 e2 => h1 H2 (e1.trans e2) _ fun H3 e3 => ⟨a, goal, ws, rfl, WA.ex ((e1.trans e2).trans e3), W, g0, g1, fun d l H4 hd e4 hf F D => ⟨d, _, l.map (·.1), rfl, .inl hf, by unfold farK; rw [List.map_map, List.map_map]; rfl, by have := F.len; rw [List.length_map]; omega, fun ys p pm sr hp => by
    rw [far_keys F (dist_eq W D) pm sr]
    exact q p _ (fresh_back ((e2.trans e3).trans e4) hp) (((e2.trans e3).trans e4).trans (Ex.new hp)) upd_same⟩⟩
theorem ev_abs {te : TE} {i : Int} (h : Ev te σ H (.int i)) : Ev (tCB rAbsI (tCons te tNil)) σ H (.int (if i < 0 then -i else i)) := fun H1 e Q q =>
  h H1 e _ fun H2 e2 => ⟨i, rfl, q H2 e2⟩
end
theorem prs_take {ps : List (Int × Int)} (h : ps.Pairwise fun a b => a.1 < b.1) {i : Nat} {p : Int × Int} (e : ps[i]? = some p) : lk (ps.take i) p.1 = none := by
  cases hl : lk (ps.take i) p.1 with
  | none => rfl
  | some d =>
    have m := lk_mem hl
    obtain ⟨j, hj, hm⟩ := List.mem_iff_getElem.mp m
    rw [List.getElem_take] at hm
    rw [List.length_take] at hj
    have il := (List.getElem?_eq_some_iff.mp e).1
    have := (List.pairwise_iff_getElem.mp h) j i (by omega) il (by omega)
    rw [hm, show ps[i] = p from Option.some.inj ((List.getElem?_eq_getElem il).symm.trans e)] at this
    dsimp only at this
    omega
def sp_heights_stand (K : PySem.W.Frag) : Sp := fun vs H Q _ => ∃ (a hl : Addr) (other : Int) (ws : List Wire) (xs : List V), vs = [.ref a, .int other, .ref hl] ∧ WiresAt K H a ws ∧ WOk ws ∧ 0 ≤ other ∧ other ≤ 31 ∧ IsDist ws other (dist ws other) ∧ SqL K H hl xs ∧ ImAll K H xs ((heights ws other).map prD) ∧ RetV (.bl true) H Q
/-- heights_stand -/
def t_heights_stand (K : PySem.W.Frag) : TS :=
    (tSeq (tAsg tDNewK (gName 3))
    (tSeq (tFor (iList K (tVar 2)) (gTup K 2 (gCons (gName 4) (gCons (gName 5) gNil)))
    (sDPut (tVar 3) (tVar 4) (tVar 5)))
    (tSeq (tIfS (tOr (tTest (tOp (rNeD K) (tLc (iList K (tVar 2)) (gName 9) tYes (tOp (rIxT K) (tVar 9) (tC (.int 0))) [9]) (tCB rSortedDI (tCons (tCall (sp_lengths_to K) [] C8.E0 (tCons (tVar 0) (tCons (tVar 1) tNil))) tNil)))) (tTest (tOp rNe (tDGet (tVar 3) (tVar 1)) (tC (.int 0))))) (tRet (tC (.bl false))) tNext)
    (tSeq (tFor (iList K (tVar 0)) (gTup K 3 (gCons (gName 6) (gCons (gName 7) (gCons (gName 8) gNil))))
    (tIfS (tAnd (tB (tDIn (tVar 6) (tVar 3))) (tTest (tOp rGtI (tCB rAbsI (tCons (tOp rSubI (tDGet (tVar 3) (tVar 6)) (tDGet (tVar 3) (tVar 7))) tNil)) (tVar 8)))) (tRet (tC (.bl false))) tNext))
    (tRet (tC (.bl true)))))))
theorem pure_heights_stand (T : Wd K mg) (vs : List V) (H : Hp) (Q : VK) (E : XK) (h : sp_heights_stand K vs H Q E) : t_heights_stand K { nx := fun _ H' => Q .non H', rt := Q } (start ["wires", "other", "heights", "told", "house", "height", "a", "b", "length", "pair"] vs) H := by
  obtain ⟨a, hl, other, ws, xs, rfl, WA, W, o0, o1, D, hs, hi, k⟩ := h
  have nd := heights_lt ws other
  have fst := heights_fst ws other
  have hmem : ∀ {h d : Int}, (h, d) ∈ heights ws other ↔ dist ws other h = some d := heights_mem D
  have hlen : (heights ws other).length ≤ 32 := by
    unfold heights
    exact Nat.le_trans (List.length_filterMap_le _ _) (by rw [List.length_range]; exact Nat.le_refl _)
  generalize heights ws other = ps at *
  have xl : xs.length = ps.length := by rw [hi.length, List.length_map]
  have kn : (ps.map (·.1)).Nodup := by
    rw [List.Nodup, List.pairwise_map]
    exact nd.imp fun h z => by omega
  have look : ∀ h, lk ps h = dist ws other h := fun h => by
    cases e : dist ws other h with
    | none =>
      cases e2 : lk ps h with
      | none => rfl
      | some d =>
        have := hmem.mp (lk_mem e2)
        rw [e] at this
        cases this
    | some d => exact lk_of_mem kn (hmem.mpr e)
  refine fun d hd => ?_
  have e1 : Ex H (upd H d (.dK [])) := Ex.new hd
  have hd1 : (upd H d (.dK [])) d = some (.dK (farK (ps.take 0))) := upd_same
  generalize upd H d (.dK []) = H1 at *
  dsimp only
  refine q_forL (ev_var rfl) (ex_l e1 hs) (fun i σ' H' => Ex H H' ∧ (∃ o4 o5, σ' = [some (.ref a), some (.int other), some (.ref hl), some (.ref d), o4, o5, none, none, none, none]) ∧ H' d = some (.dK (farK (ps.take i))))
    (fun H2 e2 => ⟨e1.trans e2, ⟨none, none, rfl⟩, e2 _ _ hd1⟩) (fun i σ' H' _ q => ex_l q.1 hs) ?_ ?_
  · rintro i x σ' H' hx ⟨e, ⟨o4, o5, rfl⟩, hdk⟩
    obtain ⟨dd, hdd, ix⟩ := hi.get hx
    rw [List.getElem?_map, Option.map_eq_some_iff] at hdd
    obtain ⟨p, hp, rfl⟩ := hdd
    obtain ⟨t, rfl, ht⟩ := pr_inv (Im.ex e ix)
    refine ⟨t, _, rfl, ht, rfl, _, _, rfl, _, _, rfl, rfl, ?_⟩
    refine s_dput (k := Sum.inl p.1) (v := .int p.2) (ev_var rfl) (ev_var rfl) (ev_var rfl) hdk (by unfold farK; rw [List.length_map, List.length_take]; omega) fun H2 e2 => ?_
    refine ⟨Ex.mut (e.trans e2) hd, ⟨_, _, rfl⟩, ?_⟩
    rw [putL_K, upd_same, take_snoc hp]
    congr 2
    unfold putL
    rw [lk_any, prs_take nd hp, if_neg (show ¬ (none : Option Int).isSome = true from Bool.false_ne_true)]
  · rintro σ' H' ⟨e, ⟨o4, o5, rfl⟩, hdk⟩
    rw [xl, List.take_length] at hdk
    have vl : ∀ (h d' : Int), dist ws other h = some d' → valV (farK ps) (Sum.inl h : Key) = some (.int d') := fun h d' e => by rw [lk_val, look, e]; rfl
    have hs' := ex_l e hs
    try dsimp only
    refine q_when (b := false) (et_is (et_or (et_test (ev_opLL (xs := (sideL ws other).map V.int) (ys := (sideL ws other).map V.int) ?_ (el_sortLen (ev_var rfl) (ev_var rfl) (WA.ex e) W o0 o1) fun p q H2 hp hq e2 => rv_neD (dp_lints (sq_of hp)) (dp_lints (sq_of hq)) (shaped_lints _) (shaped_lints _))) fun _ => et_test (ev_op (ev_dget (k := Sum.inl other) (ev_var rfl) (ev_var rfl) hdk (vl other 0 D.g0)) ev_c (rv_ne rfl))) (by rw [eqv_lints]; simp)) (fun h => nomatch h) fun _ H2 e2 => ?_
    · have q := el_lcL (K := K) (σ := [some (.ref a), some (.int other), some (.ref hl), some (.ref d), o4, o5, none, none, none, none]) (H := H') (j := 9) (vs := [9]) (te := tOp (rIxT K) (tVar 9) (tC (.int 0))) (t := tYes) (tl := tVar 2) (fun _ => true) (fun i => .int (ps.getD i (0, 0)).1) (ev_var rfl) hs' (by omega) (fun x => rfl) (fun _ _ _ _ _ => et_yes) fun i x H2 e2 hx _ => ?_
      · rw [given_all, xl] at q
        have e2 : (List.range ps.length).map (fun i => V.int (ps.getD i (0, 0)).1) = (sideL ws other).map V.int := by
          rw [range_getD (fun p : Int × Int => V.int p.1), ← fst, List.map_map]
          rfl
        rw [e2] at q
        exact q
      · obtain ⟨dd, hdd, ix⟩ := hi.get hx
        rw [List.getElem?_map, Option.map_eq_some_iff] at hdd
        obtain ⟨p, hp, rfl⟩ := hdd
        obtain ⟨t, rfl, ht⟩ := pr_inv (Im.ex (e.trans e2) ix)
        rw [List.getD_eq_getElem?_getD, hp]
        exact ev_op (ev_var rfl) ev_c (rv_ixT ht (at_nat (by decide) rfl))
    · obtain ⟨zs, hz, iz⟩ := WA.ex (e.trans e2)
      have hdk2 := e2 _ _ hdk
      refine q_forL (ev_var rfl) hz (fun i σ' H' => Ex H2 H' ∧ (∃ o6 o7 o8, σ' = [some (.ref a), some (.int other), some (.ref hl), some (.ref d), o4, o5, o6, o7, o8, none]))
        (fun H3 e3 => ⟨e3, none, none, none, rfl⟩) (fun i σ' H' _ q => ex_l q.1 hz) ?_ ?_
      · rintro i x σ' H3 hx ⟨e3, ⟨o6, o7, o8, rfl⟩⟩
        obtain ⟨dd, hdd, ix⟩ := iz.get hx
        rw [List.getElem?_map, Option.map_eq_some_iff] at hdd
        obtain ⟨w, hw, rfl⟩ := hdd
        obtain ⟨t, rfl, ht⟩ := wire_inv (Im.ex e3 ix)
        have wm := List.mem_of_getElem? hw
        have hdk3 := e3 _ _ hdk2
        have am : (w.2.1, w.2.2) ∈ besR ws w.1 := besR_mem.mpr ⟨w, wm, .inl ⟨rfl, rfl, rfl⟩⟩
        refine ⟨t, _, rfl, ht, rfl, _, _, rfl, _, _, rfl, _, _, rfl, rfl, ?_⟩
        have din : EvT (tB (tDIn (tVar 6) (tVar 3))) [some (.ref a), some (.int other), some (.ref hl), some (.ref d), o4, o5, some (.int w.1), some (.int w.2.1), some (.int w.2.2), none] H3 (dist ws other w.1).isSome := et_is (et_din (k := Sum.inl w.1) (ev_var rfl) (ev_var rfl) hdk3) (by rw [lk_val, Option.isSome_map, look])
        cases ew : dist ws other w.1 with
        | none =>
          refine s_when (b := false) (et_is (et_and (a := false) (b := false) (et_is din (by rw [ew]; rfl)) (fun h => nomatch h)) rfl) (fun h => nomatch h) fun _ H4 e4 => ⟨e3.trans e4, _, _, _, rfl⟩
        | some da =>
          obtain ⟨db, hb, l1, l2⟩ := D.eq W ew am
          refine s_when (b := false) (et_is (et_and (a := true) (et_is din (by rw [ew]; rfl)) (fun _ => et_test (ev_op (ev_abs (ev_op (ev_dget (k := Sum.inl w.1) (ev_var rfl) (ev_var rfl) hdk3 (vl _ _ ew)) (ev_dget (k := Sum.inl w.2.1) (ev_var rfl) (ev_var rfl) hdk3 (vl _ _ hb)) rv_I0)) (ev_var rfl) rv_I0))) (by simp; split <;> omega)) (fun h => nomatch h) fun _ H4 e4 => ⟨e3.trans e4, _, _, _, rfl⟩
      · rintro σ' H3 ⟨e3, ⟨o6, o7, o8, rfl⟩⟩
        try dsimp only
        exact s_ret ev_c fun H4 e4 => k H4 (((e.trans e2).trans e3).trans e4)
section
variable {P : Program} {w : World} {K : PySem.W.Frag} {mg : Str → Option Value} {base : Heap}
theorem sc_heights_stand : FnScope ["wires", "other", "heights", "told", "house", "height", "a", "b", "length", "pair"] ["wires", "other", "heights"] (defScope s_heights_stand) := ⟨rfl, rfl, rfl, by decide +kernel, rfl, by decide +kernel, by decide +kernel⟩
theorem dr_heights_stand (T : Wd K mg) (c_lengths_to : Cal P w K mg base 2 "lengths_to" (sp_lengths_to K) []) {f : Addr} {cdv : Value} {A : Around} {outer : List Env} {s : Shared} {H : Hp} {E : XK} (hr : Room 2 (A.deeper (envOfC "heights_stand" (defScope s_heights_stand) s.heap.objs.size f cdv))) :
    PSs (cxOf CX0 P w K mg base ["wires", "other", "heights", "told", "house", "height", "a", "b", "length", "pair"] "heights_stand" (defScope s_heights_stand) f cdv A outer s H E).nox (defBody s_heights_stand) (t_heights_stand K) := by
  have nd := sc_heights_stand.nd
  exact (pss_cons (ps_set (i := 3) nd rfl (by first | exact Or.inl rfl | exact Or.inr rfl) pe_dnewK)
    (pss_cons (ps_for PassesOwn.never rfl (pi_list (pv 2)) (pg_tup rfl (pgs_cons (pg_name (i := 4) nd rfl (by first | exact Or.inl rfl | exact Or.inr rfl)) (pgs_cons (pg_name (i := 5) nd rfl (by first | exact Or.inl rfl | exact Or.inr rfl)) pgs_nil)))
    (pss_one (ps_dput (hu_of hr) (pv 3) (pv 4) (pv 5) rfl)))
    (pss_cons (ps_if (PW.pt (pw_or (pt_cmpR (op_neD hr.units) (pe_lc (own := [("pair", 9)]) (g := (gName 9)) (tt := tYes) rfl nd (pi_list (pv 2)) (blkOk_by (by kernel_rfl)) (fun _ _ _ _ _ => (pg_name (i := 9) nd rfl (by first | exact Or.inl rfl | exact Or.inr rfl))) (fun _ _ _ _ _ => pts_nil) (fun _ _ _ _ _ => (pe_ix ix_tup (pv 9) pe_int (fun _ _ => rfl)))) (pe_callB (call_sortedDI rfl) (by rfl) (T.free 104) (by decide +kernel) (pa_cons (pe_c c_lengths_to hr (by decide) rfl (pa_cons (pv 0) (pa_cons (pv 1) pa_nil))) pa_nil)) (nomark _)) (pw_or1 (pt_cmpR op_ne (pe_dget (hu_of hr) (pv 3) (pv 1) (fun _ _ => rfl)) pe_int (nomark _))))) (pss_one (ps_ret pe_bl)) pss_nil)
    (pss_cons (ps_for PassesOwn.never rfl (pi_list (pv 0)) (pg_tup rfl (pgs_cons (pg_name (i := 6) nd rfl (by first | exact Or.inl rfl | exact Or.inr rfl)) (pgs_cons (pg_name (i := 7) nd rfl (by first | exact Or.inl rfl | exact Or.inr rfl)) (pgs_cons (pg_name (i := 8) nd rfl (by first | exact Or.inl rfl | exact Or.inr rfl)) pgs_nil))))
    (pss_one (ps_if (PW.pt (pw_and (pt_cmp (pc_din (hu_of hr) (pv 6) (pv 3))) (pw_and1 (pt_cmpR op_gt (pe_callB call_abs (by rfl) (T.free 94) (by decide +kernel) (pa_cons (pe_op op_sub (pe_dget (hu_of hr) (pv 3) (pv 6) (fun _ _ => rfl)) (pe_dget (hu_of hr) (pv 3) (pv 7) (fun _ _ => rfl))) pa_nil)) (pv 8) (nomark _))))) (pss_one (ps_ret pe_bl)) pss_nil)))
    (pss_one (ps_ret pe_bl))))))
theorem ok_heights_stand (T : Wd K mg) (c_lengths_to : Cal P w K mg base 2 "lengths_to" (sp_lengths_to K) []) {f : Addr} {fd : FuncData} (F : FunD K ds_heights_stand.name ds_heights_stand.qual ds_heights_stand.params ds_heights_stand.body ds_heights_stand.scope [] [] f fd) : FnOk P w K mg base CX0 3 f fd ["wires", "other", "heights"] (sp_heights_stand K) := by
  refine FunD.ok F sc_heights_stand (fun vs H Q E h => ?_) (fun cdv A outer s H vs Q E hr h => ⟨t_heights_stand K, PSs.nox (dr_heights_stand T c_lengths_to hr), pure_heights_stand T vs H Q E h⟩)
  obtain ⟨_, _, _, _, _, e, _⟩ := h
  rw [e]
  all_goals rfl
end
def sp_way_judged (K : PySem.W.Frag) : Sp := fun vs H Q _ => ∃ (p d : Addr) (kvs : List (Key × V)) (ks : List Int) (f : MF) (one other : Int) (v : V), vs = [.ref p, .int one, .int other, v] ∧ MapAt K H p d kvs ks f ∧ 0 ≤ one ∧ one ≤ 31 ∧ 0 ≤ other ∧ other ≤ 31 ∧ Dp K H v (wayD (wiresM f) one other) ∧ RetV (.bl true) H Q
/-- way_judged -/
def t_way_judged (K : PySem.W.Frag) : TS :=
    (tSeq (tAsg (tMeth (He.ga K "Map") "wires" (sp_Map_wires K) [] C8.E0 (tVar 0) tNil) (gName 4))
    (tSeq (tIfS (tTest (tOp rEq (tOp (rIxT K) (tVar 3) (tC (.int 0))) (tC (.str "side")))) (tRet (tCall (sp_is_side K) [] C8.E0 (tCons (tVar 4) (tCons (tVar 1) (tCons (tVar 2) (tCons (tOp (rIxT K) (tVar 3) (tC (.int 1))) tNil)))))) tNext)
    (tSeq (tAsg (tSl (rSlT K) (tVar 3) (tPart (tC (.int 1))) tNoPart) (gTup K 2 (gCons (gName 5) (gCons (gName 6) gNil))))
    (tSeq (tIfS (tOr (tTest (tOp rEq (tCB (Evl.rLenS K) (tCons (tVar 5) tNil)) (tC (.int 0)))) (tOr (tTest (tOp rNe (tOp (rIxT K) (tVar 5) (tC (.int 0))) (tVar 1))) (tOr (tTest (tOp rNe (tOp (rIxT K) (tVar 5) (tUn rNegI (tC (.int 1)))) (tVar 2))) (tTest (tOp rNe (tLenSetA K (tVar 5)) (tCB (Evl.rLenS K) (tCons (tVar 5) tNil))))))) (tRet (tC (.bl false))) tNext)
    (tSeq (tAsg (tCall (sp_way_length K) [] C8.E0 (tCons (tVar 4) (tCons (tVar 5) tNil))) (gName 7))
    (tSeq (tIfS (tOr (tTest (tOp rIsN (tVar 7) (tC .non))) (tNot (tB (tCall (sp_heights_stand K) [] C8.E0 (tCons (tVar 4) (tCons (tVar 2) (tCons (tVar 6) tNil))))))) (tRet (tC (.bl false))) tNext)
    (tRet (tOp (rEqD K) (tLc (iList K (tVar 6)) (gName 8) (tTest (tOp rEq (tOp (rIxT K) (tVar 8) (tC (.int 0))) (tVar 1))) (tOp (rIxT K) (tVar 8) (tC (.int 1))) [8]) (tLst (tCons (tVar 7) tNil))))))))))
theorem pure_way_judged (T : Wd K mg) (vs : List V) (H : Hp) (Q : VK) (E : XK) (h : sp_way_judged K vs H Q E) : t_way_judged K { nx := fun _ H' => Q .non H', rt := Q } (start ["known", "one", "other", "answer", "wires", "way", "heights", "length", "pair"] vs) H := by
  obtain ⟨p, d, kvs, ks, f, one, other, v, rfl, M, o0, o1, p0, p1, dv, k⟩ := h
  have W : WOk (wiresM f) := wiresM_ok fun i N e => ⟨(M.yes i N e).1, (M.yes i N e).2.1⟩
  obtain ⟨dx, hp⟩ := M.ins
  refine ⟨.ref p, rfl, p, dx, _, rfl, hp, rfl, p, d, kvs, ks, f, rfl, M, fun wl xs H1 hw e1 h1 i1 => ?_⟩
  have WA : WiresAt K H1 wl (wiresM f) := ⟨xs, sq_of h1, i1⟩
  have dv := Dp.exM e1 _ _ dv
  generalize wiresM f = ws at *
  dsimp only
  have D1 := dist_is W o0 o1
  have D2 := dist_is W p0 p1
  unfold wayD at dv
  split at dv
  · rename_i hs
    obtain ⟨d0, hd0⟩ := Option.isSome_iff_exists.mp hs
    have hwl : wayL ws one other = wayM ws (dist ws other) other d0.toNat one := by unfold wayL; rw [hd0]; rfl
    have P0 := D2.pos _ _ hd0
    obtain ⟨y1, y2, y3, y4, y5⟩ := wayM_law W D2 d0.toNat one d0 hd0 (Nat.le_refl _)
    obtain ⟨yr, yh⟩ := wayM_head ws (dist ws other) other d0.toNat one
    rw [hwl] at dv
    generalize wayM ws (dist ws other) other d0.toNat one = ys at *
    have yl : 0 < ys.length := by rw [yh]; exact Nat.succ_pos _
    cases dv with
    | tup hv av =>
      rename_i va vs'
      cases av with
      | cons a1 av =>
        cases av with
        | cons a2 av =>
          cases av with
          | cons a3 av =>
            cases av
            cases a1
            cases a2 with
            | tup hy ay =>
              rename_i ya yv
              have := dp_ints ay
              subst this
              cases a3 with
              | lst hh ah =>
                rename_i hl hx
                have ih := dp_prs ah
                have yb : ys.length ≤ 40 := by
                  have := small_len (ks := ys) y3 fun x hx => by
                    obtain ⟨i, hi, rfl⟩ := List.mem_iff_getElem.mp hx
                    by_cases hz : i + 1 < ys.length
                    · obtain ⟨l, m, _⟩ := y5 i hz
                      have := W.adj m
                      rw [List.getD_eq_getElem?_getD, List.getD_eq_getElem?_getD, List.getElem?_eq_getElem hi] at this
                      dsimp only [Option.getD_some] at this
                      omega
                    · have : ys.getLast? = ys[i]? := by rw [List.getLast?_eq_getElem?]; congr 1; omega
                      rw [y1, List.getElem?_eq_getElem hi] at this
                      rw [← Option.some.inj this]
                      omega
                  omega
                have y0 : ys.getD 0 0 = one := by rw [yh]; rfl
                have yz : ys.getD (ys.length - 1) 0 = other := by rw [List.getD_eq_getElem?_getD, ← List.getLast?_eq_getElem?, y1]; rfl
                have y0' : (ys.map V.int)[0]? = some (.int one) := by rw [yh]; rfl
                refine q_when (b := false) (et_is (et_test (ev_op (ev_op (ev_var rfl) ev_c (rv_ixT hv (at_nat (by decide) rfl))) ev_c (rv_eq rfl))) (by decide)) (fun h => nomatch h) fun _ H2 e2 => ?_
                refine ⟨_, rfl, 1, rfl, va, _, rfl, ex_t e2 hv, (fun h => absurd h.1 (show ¬ (HT.sIx 3 0 (some 1) = 0) by decide)), fun q hq => ⟨q, _, rfl, st_of upd_same, rfl, _, _, rfl, _, _, rfl, rfl, ?_⟩⟩
                have e3 : Ex H2 (upd H2 q (.tup (cutV [V.str "way", V.ref ya, V.ref hl] (some 1) none))) := Ex.new hq
                generalize upd H2 q (.tup (cutV [V.str "way", V.ref ya, V.ref hl] (some 1) none)) = H3 at *
                have e13 := e2.trans e3
                have hy3 := ex_t e13 hy
                have leny : ∀ H4, Ex H3 H4 → Ev (tCB (Evl.rLenS K) (tCons (tVar 5) tNil)) [some (.ref p), some (.int one), some (.int other), some (.ref va), some (.ref wl), some (.ref ya), some (.ref hl), none, none] H4 (.int (ys.length : Int)) := fun H4 e4 => ev_is (ev_lenT (ev_var rfl) (ex_t e4 hy3)) (by rw [List.length_map])
                have lasty : (ys.map V.int) = (ys.take (ys.length - 1)).map V.int ++ [.int other] := by
                  rw [← List.map_singleton, ← List.map_append]
                  congr 1
                  rw [← yz, List.getD_eq_getElem?_getD, List.getElem?_eq_getElem (by omega)]
                  show _ = _ ++ [ys[ys.length - 1]]
                  rw [List.take_append_getElem, Nat.sub_add_cancel yl, List.take_length]
                dsimp only
                refine q_when (b := false) (et_is (et_or (et_test (ev_op (leny H3 (Ex.refl H3)) ev_c (rv_eq rfl))) fun _ => et_or (et_test (ev_op (ev_op (ev_var rfl) ev_c (rv_ixT hy3 (at_nat (by decide) y0'))) (ev_var rfl) (rv_ne rfl))) fun _ => et_or (et_test (ev_op (ev_op (ev_var rfl) (ev_un ev_c ru_neg) (rv_ixT hy3 (v := .int other) (by rw [lasty]; exact atI_last))) (ev_var rfl) (rv_ne rfl))) fun _ => et_test (ev_op (ev_setI (ev_var rfl) (.inr hy3) y3 (by omega)) (leny H3 (Ex.refl H3)) (rv_ne rfl))) ?_) (fun h => nomatch h) fun _ H4 e4 => ?_
                · simp
                  intro z
                  rw [z] at yl
                  exact absurd yl (by decide)
                · refine q_asg (v := .int d0) (fun H5 e5 Q5 q5 => ?_) fun H5 e5 => ?_
                  · refine ⟨_, rfl, _, rfl, wl, ya, ws, ys, gg (dist ws other), rfl, WA.ex ((e13.trans e4).trans e5), W, ex_t (e4.trans e5) hy3, yl, by omega, y5, fun H6 e6 => ?_⟩
                    have : gg (dist ws other) (ys.getD 0 0) - gg (dist ws other) (ys.getD (ys.length - 1) 0) = d0 := by
                      rw [y0, yz]
                      unfold gg
                      rw [hd0, D2.g0]
                      simp
                    rw [this]
                    exact q5 H6 e6
                  · have e15 := (e13.trans e4).trans e5
                    refine q_when (b := false) (et_is (et_or (et_test (ev_isN (x := .int d0) (ev_var rfl))) fun _ => et_not (et_B (b := true) ?_)) (by simp)) (fun h => nomatch h) fun _ H6 e6 => ?_
                    · exact fun H6 e6 Q6 q6 => ⟨_, rfl, _, rfl, _, rfl, wl, hl, other, ws, hx, rfl, WA.ex (e15.trans e6), W, p0, p1, D2, ex_l (e15.trans e6) hh, ImAll.ex (e15.trans e6) ih, fun H7 e7 => q6 H7 e7⟩
                    · have e16 := e15.trans e6
                      have xl : hx.length = (heights ws other).length := by rw [ih.length, List.length_map]
                      have hlen : (heights ws other).length ≤ 32 := by
                        unfold heights
                        exact Nat.le_trans (List.length_filterMap_le _ _) (by rw [List.length_range]; exact Nat.le_refl _)
                      have pick := pick_one (heights_lt ws other) ((heights_mem D2).mpr hd0)
                      refine s_ret (v := .bl true) (ev_is (ev_opLL (xs := [.int d0]) (ys := [.int d0]) ?_ (el_lst (ea_cons (ev_var rfl) ea_nil) (Nat.le_of_ble_eq_true rfl)) fun q1 q2 H7 hq1 hq2 e7 => rv_eqD (dp_lints (ns := [d0]) (sq_of hq1)) (dp_lints (ns := [d0]) (sq_of hq2)) (shaped_lints _) (shaped_lints _)) (by rw [eqv_lints]; simp)) fun H7 e7 => k H7 ((e1.trans e16).trans e7)
                      refine el_is (el_lcL (K := K) (fun i => decide (((heights ws other).getD i (0, 0)).1 = one)) (fun i => .int ((heights ws other).getD i (0, 0)).2) (ev_var rfl) (ex_l e16 hh) (by omega) (fun x => rfl) (fun i x H7 e7 hx7 => ?_) fun i x H7 e7 hx7 hf => ?_) ?_
                      · obtain ⟨dd, hdd, ix⟩ := ih.get hx7
                        rw [List.getElem?_map, Option.map_eq_some_iff] at hdd
                        obtain ⟨w, hw, rfl⟩ := hdd
                        obtain ⟨t, rfl, ht⟩ := pr_inv (Im.ex (e16.trans e7) ix)
                        rw [List.getD_eq_getElem?_getD, hw]
                        exact et_is (et_test (ev_op (ev_op (ev_var rfl) ev_c (rv_ixT ht (at_nat (by decide) rfl))) (ev_var rfl) (rv_eq rfl))) (by simp)
                      · obtain ⟨dd, hdd, ix⟩ := ih.get hx7
                        rw [List.getElem?_map, Option.map_eq_some_iff] at hdd
                        obtain ⟨w, hw, rfl⟩ := hdd
                        obtain ⟨t, rfl, ht⟩ := pr_inv (Im.ex (e16.trans e7) ix)
                        rw [List.getD_eq_getElem?_getD, hw]
                        exact ev_op (ev_var rfl) ev_c (rv_ixT ht (at_nat (by decide) rfl))
                      · rw [xl]
                        have key : ∀ ps : List (Int × Int), given ps.length (fun i => decide ((ps.getD i (0, 0)).1 = one)) (fun i => .int (ps.getD i (0, 0)).2) = (ps.filterMap (fun p => if p.1 = one then some p.2 else none)).map V.int := fun ps => by
                          have h1 : (ps.filterMap (fun p => if p.1 = one then some p.2 else none)).map V.int = (ps.filter fun p => decide (p.1 = one)).map fun p => V.int p.2 := by
                            induction ps with
                            | nil => rfl
                            | cons p ps ih =>
                              rw [List.filterMap_cons, List.filter_cons]
                              by_cases h : p.1 = one
                              · simp only [h, if_true, decide_true, List.map_cons]
                                rw [ih]
                              · simp only [h, if_false, decide_false, Bool.false_eq_true]
                                exact ih
                          have h2 := range_getD (fun p : Int × Int => p) (0, 0) ps
                          rw [List.map_id'] at h2
                          rw [h1]
                          conv => rhs; rw [← h2]
                          rw [List.filter_map, List.map_map]
                          rfl
                        rw [key, pick]
                        rfl
  · rename_i hs
    have hn : dist ws other one = none := by
      cases e : dist ws other one with
      | none => rfl
      | some x => rw [e] at hs; exact absurd rfl hs
    cases dv with
    | tup hv av =>
      rename_i va vs'
      cases av with
      | cons a1 av =>
        cases av with
        | cons a2 av =>
          cases av
          cases a1
          cases a2 with
          | tup hy ay =>
            rename_i sa sv
            have := dp_ints ay
            subst this
            have mem : ∀ x : Int, x ∈ sideL ws one ↔ (dist ws one x).isSome = true := fun x => by
              unfold sideL
              rw [List.mem_map]
              constructor
              · rintro ⟨i, hi, rfl⟩
                rw [List.mem_filter] at hi
                exact hi.2
              · intro hx
                obtain ⟨y, hy⟩ := Option.isSome_iff_exists.mp hx
                have := D1.pos _ _ hy
                refine ⟨x.toNat, ?_, by omega⟩
                rw [List.mem_filter, List.mem_range]
                refine ⟨by omega, ?_⟩
                rw [show ((x.toNat : Nat) : Int) = x by omega]
                exact hx
            refine q_when (b := true) (et_is (et_test (ev_op (ev_op (ev_var rfl) ev_c (rv_ixT hv (at_nat (by decide) rfl))) ev_c (rv_eq rfl))) (by decide)) (fun _ H2 e2 => ?_) fun h => nomatch h
            refine s_ret (v := .bl true) (ev_call (ea_cons (ev_var rfl) (ea_cons (ev_var rfl) (ea_cons (ev_var rfl) (ea_cons (ev_op (ev_var rfl) ev_c (rv_ixT (ex_t e2 hv) (at_nat (by decide) rfl))) ea_nil)))) fun H3 e3 Q3 q3 E3 => ⟨wl, sa, one, other, ws, sideL ws one, rfl, WA.ex (e2.trans e3), W.len, ex_t (e2.trans e3) hy, ?_, ?_, ?_, ?_, ?_, fun H4 e4 => q3 H4 e4⟩) fun H3 e3 => k H3 ((e1.trans e2).trans e3)
            · unfold sideL
              rw [List.pairwise_map]
              exact (List.Pairwise.filter _ (List.pairwise_lt_range (n := 32))).imp fun h => by omega
            · intro x hx
              obtain ⟨y, hy⟩ := Option.isSome_iff_exists.mp ((mem x).mp hx)
              have := D1.pos _ _ hy
              omega
            · rw [mem, D1.g0]
              rfl
            · intro hx
              obtain ⟨y, hy⟩ := Option.isSome_iff_exists.mp ((mem other).mp hx)
              have := dist_sym W D1 D2 y.toNat other y (Nat.le_refl _) hy (by rw [D2.g0]; rfl)
              rw [hn] at this
              cases this
            · intro w hw
              have am : (w.2.1, w.2.2) ∈ besR ws w.1 := besR_mem.mpr ⟨w, hw, .inl ⟨rfl, rfl, rfl⟩⟩
              rw [mem, mem]
              constructor
              · intro hx
                obtain ⟨y, hy⟩ := Option.isSome_iff_exists.mp hx
                obtain ⟨z, hz, _⟩ := D1.cl _ _ _ _ hy am
                rw [hz]
                rfl
              · intro hx
                obtain ⟨y, hy⟩ := Option.isSome_iff_exists.mp hx
                obtain ⟨z, hz, _⟩ := D1.cl _ _ _ _ hy (W.adj am).1
                rw [hz]
                rfl
section
variable {P : Program} {w : World} {K : PySem.W.Frag} {mg : Str → Option Value} {base : Heap}
theorem sc_way_judged : FnScope ["known", "one", "other", "answer", "wires", "way", "heights", "length", "pair"] ["known", "one", "other", "answer"] (defScope s_way_judged) := ⟨rfl, rfl, rfl, by decide +kernel, rfl, by decide +kernel, by decide +kernel⟩
theorem dr_way_judged (T : Wd K mg) (c_Map_wires : Met P w K mg base 2 (He.ga K "Map") "wires" (sp_Map_wires K) []) (c_is_side : Cal P w K mg base 1 "is_side" (sp_is_side K) []) (c_way_length : Cal P w K mg base 2 "way_length" (sp_way_length K) []) (c_heights_stand : Cal P w K mg base 3 "heights_stand" (sp_heights_stand K) []) {f : Addr} {cdv : Value} {A : Around} {outer : List Env} {s : Shared} {H : Hp} {E : XK} (hr : Room 3 (A.deeper (envOfC "way_judged" (defScope s_way_judged) s.heap.objs.size f cdv))) :
    PSs (cxOf CX0 P w K mg base ["known", "one", "other", "answer", "wires", "way", "heights", "length", "pair"] "way_judged" (defScope s_way_judged) f cdv A outer s H E).nox (defBody s_way_judged) (t_way_judged K) := by
  have nd := sc_way_judged.nd
  exact (pss_cons (ps_set (i := 4) nd rfl (by first | exact Or.inl rfl | exact Or.inr rfl) (pe_mt0 c_Map_wires hr (by decide) (pv 0)))
    (pss_cons (ps_if (pt_cmpR op_eq (pe_ix ix_tup (pv 3) pe_int (fun _ _ => rfl)) pe_str (nomark _)) (pss_one (ps_ret (pe_c c_is_side hr (by decide) rfl (pa_cons (pv 4) (pa_cons (pv 1) (pa_cons (pv 2) (pa_cons (pe_ix ix_tup (pv 3) pe_int (fun _ _ => rfl)) pa_nil))))))) pss_nil)
    (pss_cons (ps_asg (pe_slice sl_tup (pv 3) (po_some pe_int) po_none) (pg_tup rfl (pgs_cons (pg_name (i := 5) nd rfl (by first | exact Or.inl rfl | exact Or.inr rfl)) (pgs_cons (pg_name (i := 6) nd rfl (by first | exact Or.inl rfl | exact Or.inr rfl)) pgs_nil))))
    (pss_cons (ps_if (PW.pt (pw_or (pt_cmpR op_eq (pe_callB call_len_seq (by rfl) (T.free 97) (by decide +kernel) (pa_cons (pv 5) pa_nil)) pe_int (nomark _)) (pw_or (pt_cmpR op_ne (pe_ix ix_tup (pv 5) pe_int (fun _ _ => rfl)) (pv 1) (nomark _)) (pw_or (pt_cmpR op_ne (pe_ix ix_tup (pv 5) (pe_un un_neg pe_int) (fun _ _ => rfl)) (pv 2) (nomark _)) (pw_or1 (pt_cmpR op_ne (pe_lenSetA (by rfl) (T.free 97) (by rfl) (T.free 103) (pv 5)) (pe_callB call_len_seq (by rfl) (T.free 97) (by decide +kernel) (pa_cons (pv 5) pa_nil)) (nomark _))))))) (pss_one (ps_ret pe_bl)) pss_nil)
    (pss_cons (ps_set (i := 7) nd rfl (by first | exact Or.inl rfl | exact Or.inr rfl) (pe_c c_way_length hr (by decide) rfl (pa_cons (pv 4) (pa_cons (pv 5) pa_nil))))
    (pss_cons (ps_if (PW.pt (pw_or (pt_cmpR op_isN1 (pv 7) pe_non (nomark _)) (pw_or1 (pt_not (pt_val (pe_c c_heights_stand hr (by decide) rfl (pa_cons (pv 4) (pa_cons (pv 2) (pa_cons (pv 6) pa_nil))))))))) (pss_one (ps_ret pe_bl)) pss_nil)
    (pss_one (ps_ret (pe_cmpR (op_eqD hr.units) (pe_lc (own := [("pair", 8)]) (g := (gName 8)) (tt := (tTest (tOp rEq (tOp (rIxT K) (tVar 8) (tC (.int 0))) (tVar 1)))) rfl nd (pi_list (pv 6)) (blkOk_by (by kernel_rfl)) (fun _ _ _ _ _ => (pg_name (i := 8) nd rfl (by first | exact Or.inl rfl | exact Or.inr rfl))) (fun _ _ _ _ _ => pts_one (pt_cmpR op_eq (pe_ix ix_tup (pv 8) pe_int (fun _ _ => rfl)) (pv 1) (nomark _))) (fun _ _ _ _ _ => (pe_ix ix_tup (pv 8) pe_int (fun _ _ => rfl)))) (pe_lst (pa_cons (pv 7) pa_nil)) (nomark _))))))))))
theorem ok_way_judged (T : Wd K mg) (c_Map_wires : Met P w K mg base 2 (He.ga K "Map") "wires" (sp_Map_wires K) []) (c_is_side : Cal P w K mg base 1 "is_side" (sp_is_side K) []) (c_way_length : Cal P w K mg base 2 "way_length" (sp_way_length K) []) (c_heights_stand : Cal P w K mg base 3 "heights_stand" (sp_heights_stand K) []) {f : Addr} {fd : FuncData} (F : FunD K ds_way_judged.name ds_way_judged.qual ds_way_judged.params ds_way_judged.body ds_way_judged.scope [] [] f fd) : FnOk P w K mg base CX0 4 f fd ["known", "one", "other", "answer"] (sp_way_judged K) := by
  refine FunD.ok F sc_way_judged (fun vs H Q E h => ?_) (fun cdv A outer s H vs Q E hr h => ⟨t_way_judged K, PSs.nox (dr_way_judged T c_Map_wires c_is_side c_way_length c_heights_stand hr), pure_way_judged T vs H Q E h⟩)
  obtain ⟨_, _, _, _, _, _, _, _, e, _⟩ := h
  rw [e]
  all_goals rfl
end
end

end K85
end
section
set_option maxHeartbeats 400000
namespace K85
open PySem PySem.Spec PyProof.Rows
open L2 hiding CX0 E0 pass0
open C8 Evl
/-! ### tactics -/
local macro_rules | `(tactic| walk_at "side") => `(tactic| first | omega | assumption | rfl | decide)
local macro_rules | `(tactic| walk_at "at") => `(tactic| first | (refine at_int ?_ ?_ <;> first | omega | (simp; omega)) | assumption)
local macro_rules | `(tactic| walk_at "rv") => `(tactic| first
  | with_reducible exact rv_I0
  | ((with_reducible apply rv_eq); rfl)
  | ((with_reducible apply rv_ne); rfl)
  | ((with_reducible apply rv_mod); first | omega | decide)
  | ((with_reducible apply rv_mul); omega)
  | ((with_reducible apply rv_div); omega)
  | ((with_reducible apply rv_ixL); · assumption
     · walk_at "at")
  | ((with_reducible apply rv_ixT); · assumption
     · walk_at "at"))
local macro_rules | `(tactic| walk_at "ev") => `(tactic| first
  | ((with_reducible apply ev_var); rfl)
  | with_reducible exact ev_c
  | ((with_reducible apply ev_isN); walk_at "ev")
  | ((with_reducible apply ev_notN); walk_at "ev")
  | ((with_reducible apply ev_op); · walk_at "ev"
     · walk_at "ev"
     · walk_at "rv")
  | ((with_reducible apply ev_un); · walk_at "ev"
     · with_reducible exact ru_neg)
  | ((with_reducible apply ev_chain); · walk_at "ev"
     · walk_at "ev"
     · walk_at "rv"
     · intro _; walk_at "ev"
     · intro _; walk_at "rv")
  | ((with_reducible apply ev_len); · walk_at "ev"
     · assumption)
  | ((with_reducible apply ev_lenT); · walk_at "ev"
     · assumption)
  | ((with_reducible apply ev_andV); · walk_at "ev"
     · intro _; walk_at "ev")
  | with_reducible assumption)
local macro_rules | `(tactic| walk_at "evt") => `(tactic| first
  | ((with_reducible apply et_or); · walk_at "evt"
     · intro _; walk_at "evt")
  | ((with_reducible apply et_and); · walk_at "evt"
     · intro _; walk_at "evt")
  | ((with_reducible apply et_not); walk_at "evt")
  | ((with_reducible apply et_test); walk_at "ev")
  | ((with_reducible apply et_B); walk_at "ev")
  | with_reducible assumption)
local macro_rules | `(tactic| walk_at "bool") => `(tactic| first | rfl | (simp; done) | (simp; omega) | (simp; intros; omega) | grind)
section
variable {K : PySem.W.Frag} {mg : Str → Option Value}
/-! ### what is left of a cell of the script -/
def LeftAt (H : Hp) (l : Addr) : Prop := ∃ x y z : Int, H l = some (.lst [.int x, .int y, .int z])
theorem LeftAt.ex {H H' : Hp} {l : Addr} (h : LeftAt H l) (e : Ex H H') : LeftAt H' l := by
  obtain ⟨x, y, z, h⟩ := h
  exact ⟨x, y, z, e _ _ h⟩
theorem LeftAt.upd {H : Hp} {l a : Addr} {o : HO} (h : LeftAt H l) (n : l ≠ a) : LeftAt (upd H a o) l := by
  obtain ⟨x, y, z, h⟩ := h
  exact ⟨x, y, z, by rw [upd_ne n]; exact h⟩
theorem LeftAt.tx {H H' : Hp} {l : Addr} (h : LeftAt H l) (b : Bt [l] H H') : Tx K H H' := by
  obtain ⟨x, y, z, h⟩ := h
  exact Bt.tx b fun q hq => by
    rw [List.mem_singleton.mp hq]
    exact ⟨_, h, fun xs z => (by cases z), fun b u z => (by cases z)⟩
theorem LeftAt.new {H : Hp} {l a : Addr} (h : LeftAt H l) (ha : H a = none) : l ≠ a := by
  obtain ⟨x, y, z, h⟩ := h
  exact ne_of_none h ha
theorem rv_divW {H : Hp} {i j : Int} (h0 : 0 < j) (h1 : j ≤ 1000000) : RV rDivW (.int i) (.int j) H (.int (i / j)) := rv_I (C := CDivW) ⟨h0, by
  have : j.natAbs.log2 < 20 := (Nat.log2_lt (by omega)).mpr (by omega)
  omega⟩
def sp_law_left (_ : PySem.W.Frag) : Sp := fun vs H Q _ => ∃ z : Int, vs = [.int z] ∧ ∀ l H', H l = none → Ex H H' → LeftAt H' l → Q (.ref l) H'
/-- _law_left -/
def t_law_left (K : PySem.W.Frag) : TS :=
    (tRet (tLst (tCons (tCB Evl.rMax2 (tCons (tC (.int 0)) (tCons (tOp rSubI (tVar 0) (tOp rPowI (tC (.int 10)) (tC (.int 18)))) tNil))) (tCons (tOp rModI (tVar 0) (tOp rPowI (tC (.int 10)) (tC (.int 18)))) (tCons (tC (.int 0)) tNil)))))
theorem pure_law_left (_ : Wd K mg) (vs : List V) (H : Hp) (Q : VK) (E : XK) (h : sp_law_left K vs H Q E) : t_law_left K { nx := fun _ H' => Q .non H', rt := Q } (start ["cell"] vs) H := by
  obtain ⟨z, rfl, k⟩ := h
  have pw : ∀ σ : L2.St, Ev (tOp rPowI (tC (.int 10)) (tC (.int 18))) σ H (.int (10 ^ (18 : Int).toNat)) := fun σ => ev_op ev_c ev_c (rv_I (C := CPow) ⟨by decide, by decide, by decide⟩)
  exact s_retL (el_lst (ea_cons (ev_max2 ev_c (ev_op (ev_var rfl) (pw _) rv_I0)) (ea_cons (ev_op (ev_var rfl) (pw _) (rv_mod (by decide))) (ea_cons ev_c ea_nil))) (Nat.le_of_ble_eq_true rfl)) fun l H1 hl e1 h1 => k l H1 hl e1 ⟨_, _, _, h1⟩
section
variable {P : Program} {w : World} {K : PySem.W.Frag} {mg : Str → Option Value} {base : Heap}
theorem sc_law_left : FnScope ["cell"] ["cell"] (defScope s_law_left) := ⟨rfl, rfl, rfl, by decide +kernel, rfl, by decide +kernel, by decide +kernel⟩
theorem dr_law_left (T : Wd K mg) {f : Addr} {cdv : Value} {A : Around} {outer : List Env} {s : Shared} {H : Hp} {E : XK} (hr : Room 0 (A.deeper (envOfC "_law_left" (defScope s_law_left) s.heap.objs.size f cdv))) :
    PSs (cxOf CX0 P w K mg base ["cell"] "_law_left" (defScope s_law_left) f cdv A outer s H E).nox (defBody s_law_left) (t_law_left K) := by
  have nd := sc_law_left.nd
  exact (pss_one (ps_ret (pe_lst (pa_cons (pe_callB (call_max2 rfl) (by rfl) (T.free 99) (by decide +kernel) (pa_cons pe_int (pa_cons (pe_op op_sub (pv 0) (pe_op op_pow pe_int pe_int)) pa_nil))) (pa_cons (pe_op op_mod (pv 0) (pe_op op_pow pe_int pe_int)) (pa_cons pe_int pa_nil))))))
theorem ok_law_left (T : Wd K mg) {f : Addr} {fd : FuncData} (F : FunD K ds_law_left.name ds_law_left.qual ds_law_left.params ds_law_left.body ds_law_left.scope [] [] f fd) : FnOk P w K mg base CX0 1 f fd ["cell"] (sp_law_left K) := by
  refine FunD.ok F sc_law_left (fun vs H Q E h => ?_) (fun cdv A outer s H vs Q E hr h => ⟨t_law_left K, PSs.nox (dr_law_left T  hr), pure_law_left T vs H Q E h⟩)
  obtain ⟨_, e, _⟩ := h
  rw [e]
  all_goals rfl
end
def sp_law_next (_ : PySem.W.Frag) : Sp := fun vs H Q _ => ∃ (l : Addr) (base : Int), vs = [.ref l, .int base] ∧ LeftAt H l ∧ 1 ≤ base ∧ base ≤ 1000000 ∧ ∀ r H', 0 ≤ r → r < base → Bt [l] H H' → LeftAt H' l → Q (.int r) H'
/-- _law_next -/
def t_law_next (K : PySem.W.Frag) : TS :=
    (tSeq (tIfS (tTest (tOp rGtI (tOp (rIxL K) (tVar 0) (tC (.int 0))) (tC (.int 0)))) (tSeq (tAsg (tOp rModI (tOp (rIxL K) (tVar 0) (tC (.int 0))) (tVar 1)) (gName 2))
    (tSeq (tAsg (tOp rDivW (tOp (rIxL K) (tVar 0) (tC (.int 0))) (tVar 1)) (gSub (tVar 0) (tC (.int 0)) rSetL))
    (tRet (tVar 2)))) tNext)
    (tSeq (tAsg (tOp rAddI (tOp (rIxL K) (tVar 0) (tC (.int 2))) (tC (.int 1))) (gSub (tVar 0) (tC (.int 2)) rSetL))
    (tSeq (tAsg (tOp rModI (tOp rAddI (tOp (rIxL K) (tVar 0) (tC (.int 1))) (tOp rMulI (tC (.int 7919)) (tOp (rIxL K) (tVar 0) (tC (.int 2))))) (tC (.int 1000000007))) (gName 3))
    (tSeq (tAsg (tOp rModI (tOp rMulI (tOp rAddI (tVar 3) (tC (.int 11))) (tOp rAddI (tVar 3) (tC (.int 48271)))) (tC (.int 998244353))) (gName 4))
    (tRet (tOp rModI (tOp rDivW (tOp rModI (tOp rMulI (tVar 4) (tVar 4)) (tC (.int 2147483647))) (tC (.int 8))) (tVar 1)))))))
theorem pure_law_next (_ : Wd K mg) (vs : List V) (H : Hp) (Q : VK) (E : XK) (h : sp_law_next K vs H Q E) : t_law_next K { nx := fun _ H' => Q .non H', rt := Q } (start ["left", "base", "digit", "near", "stir"] vs) H := by
  obtain ⟨l, base, rfl, ⟨x, y, z, hl⟩, b0, b1, k⟩ := h
  have ix : ∀ (H1 : Hp) (σ : L2.St) (x y z : Int) (i : Int) (v : V), H1 l = some (.lst [.int x, .int y, .int z]) → σ[0]? = some (some (.ref l)) → atI [V.int x, V.int y, V.int z] i = some v → Ev (tOp (rIxL K) (tVar 0) (tC (.int i))) σ H1 v := fun H1 σ x y z i v h1 h2 h3 => ev_op (ev_var h2) ev_c (rv_ixL (sq_of h1) h3)
  refine q_when (b := decide (0 < x)) (et_test (ev_op (ix H _ x y z 0 _ hl rfl (at_nat (by decide) rfl)) ev_c rv_I0)) (fun hb H1 e1 => ?_) fun hb H1 e1 => ?_
  · have h1 := e1 _ _ hl
    refine q_asg (v := .int (x % base)) (ev_op (ix H1 _ x y z 0 _ h1 rfl (at_nat (by decide) rfl)) (ev_var rfl) (rv_mod (by omega))) fun H2 e2 => ?_
    have h2 := e2 _ _ h1
    refine q_setL (j := 0) (v := .int (x / base)) h2 (ev_op (ix H2 _ x y z 0 _ h2 rfl (at_nat (by decide) rfl)) (ev_var rfl) (rv_divW (by omega) b1)) (ev_var rfl) ev_c (Nat.succ_pos _) fun H3 e3 => ?_
    refine s_ret (ev_var rfl) fun H4 e4 => ?_
    have h1 := Int.emod_nonneg x (show base ≠ 0 by omega)
    have h2 := Int.emod_lt_of_pos x (show 0 < base by omega)
    exact k _ H4 h1 h2 (Bt.trans (Bt.upd (Bt.ex ((e1.trans e2).trans e3)) (.inl (by simp))) (Bt.ex e4)) ⟨_, _, _, e4 _ _ upd_same⟩
  · have h1 := e1 _ _ hl
    refine q_setL (j := 2) (v := .int (z + 1)) h1 (ev_op (ix H1 _ x y z 2 _ h1 rfl (at_nat (by decide) rfl)) ev_c rv_I0) (ev_var rfl) ev_c (by show 2 < 3; decide) fun H2 e2 => ?_
    have b2 : Bt [l] H (upd H2 l (.lst ([V.int x, V.int y, V.int z].set 2 (.int (z + 1))))) := Bt.upd (Bt.ex (e1.trans e2)) (.inl (by simp))
    have h2 : (upd H2 l (.lst ([V.int x, V.int y, V.int z].set 2 (.int (z + 1))))) l = some (.lst [.int x, .int y, .int (z + 1)]) := upd_same
    generalize upd H2 l (.lst ([V.int x, V.int y, V.int z].set 2 (.int (z + 1)))) = H3 at *
    refine q_asg (v := .int ((y + 7919 * (z + 1)) % 1000000007)) (ev_op (ev_op (ix H3 _ x y _ 1 _ h2 rfl (at_nat (by decide) rfl)) (ev_op ev_c (ix H3 _ x y _ 2 _ h2 rfl (at_nat (by decide) rfl)) (rv_mul (.inl (by decide)))) rv_I0) ev_c (rv_mod (by decide))) fun H4 e4 => ?_
    have n0 := Int.emod_nonneg (y + 7919 * (z + 1)) (show (1000000007 : Int) ≠ 0 by decide)
    have n1 := Int.emod_lt_of_pos (y + 7919 * (z + 1)) (show (0 : Int) < 1000000007 by decide)
    generalize (y + 7919 * (z + 1)) % 1000000007 = n at *
    refine q_asg (v := .int ((n + 11) * (n + 48271) % 998244353)) (ev_op (ev_op (ev_op (ev_var rfl) ev_c rv_I0) (ev_op (ev_var rfl) ev_c rv_I0) (rv_mul (.inl (by omega)))) ev_c (rv_mod (by decide))) fun H5 e5 => ?_
    have m0 := Int.emod_nonneg ((n + 11) * (n + 48271)) (show (998244353 : Int) ≠ 0 by decide)
    have m1 := Int.emod_lt_of_pos ((n + 11) * (n + 48271)) (show (0 : Int) < 998244353 by decide)
    generalize (n + 11) * (n + 48271) % 998244353 = m at *
    refine s_ret (v := .int (m * m % 2147483647 / 8 % base)) (ev_op (ev_op (ev_op (ev_op (ev_var rfl) (ev_var rfl) (rv_mul (.inl (by omega)))) ev_c (rv_mod (by decide))) ev_c (rv_divW (by decide) (by decide))) (ev_var rfl) (rv_mod (by omega))) fun H6 e6 => ?_
    refine k _ H6 (Int.emod_nonneg _ (by omega)) (Int.emod_lt_of_pos _ (by omega)) (b2.trans (Bt.ex ((e4.trans e5).trans e6))) ⟨_, _, _, ((e4.trans e5).trans e6) _ _ h2⟩
section
variable {P : Program} {w : World} {K : PySem.W.Frag} {mg : Str → Option Value} {base : Heap}
theorem sc_law_next : FnScope ["left", "base", "digit", "near", "stir"] ["left", "base"] (defScope s_law_next) := ⟨rfl, rfl, rfl, by decide +kernel, rfl, by decide +kernel, by decide +kernel⟩
theorem dr_law_next (T : Wd K mg) {f : Addr} {cdv : Value} {A : Around} {outer : List Env} {s : Shared} {H : Hp} {E : XK} (hr : Room 0 (A.deeper (envOfC "_law_next" (defScope s_law_next) s.heap.objs.size f cdv))) :
    PSs (cxOf CX0 P w K mg base ["left", "base", "digit", "near", "stir"] "_law_next" (defScope s_law_next) f cdv A outer s H E).nox (defBody s_law_next) (t_law_next K) := by
  have nd := sc_law_next.nd
  exact (pss_cons (ps_if (pt_cmpR op_gt (pe_ix ix_list (pv 0) pe_int (fun _ _ => rfl)) pe_int (nomark _)) (pss_cons (ps_set (i := 2) nd rfl (by first | exact Or.inl rfl | exact Or.inr rfl) (pe_op op_mod (pe_ix ix_list (pv 0) pe_int (fun _ _ => rfl)) (pv 1)))
    (pss_cons (ps_asg (pe_op op_fdivW (pe_ix ix_list (pv 0) pe_int (fun _ _ => rfl)) (pv 1)) (pg_sub (pv 0) pe_int set_list))
    (pss_one (ps_ret (pv 2))))) pss_nil)
    (pss_cons (ps_asg (pe_op op_add (pe_ix ix_list (pv 0) pe_int (fun _ _ => rfl)) pe_int) (pg_sub (pv 0) pe_int set_list))
    (pss_cons (ps_set (i := 3) nd rfl (by first | exact Or.inl rfl | exact Or.inr rfl) (pe_op op_mod (pe_op op_add (pe_ix ix_list (pv 0) pe_int (fun _ _ => rfl)) (pe_op op_mul pe_int (pe_ix ix_list (pv 0) pe_int (fun _ _ => rfl)))) pe_int))
    (pss_cons (ps_set (i := 4) nd rfl (by first | exact Or.inl rfl | exact Or.inr rfl) (pe_op op_mod (pe_op op_mul (pe_op op_add (pv 3) pe_int) (pe_op op_add (pv 3) pe_int)) pe_int))
    (pss_one (ps_ret (pe_op op_mod (pe_op op_fdivW (pe_op op_mod (pe_op op_mul (pv 4) (pv 4)) pe_int) pe_int) (pv 1))))))))
theorem ok_law_next (T : Wd K mg) {f : Addr} {fd : FuncData} (F : FunD K ds_law_next.name ds_law_next.qual ds_law_next.params ds_law_next.body ds_law_next.scope [] [] f fd) : FnOk P w K mg base CX0 1 f fd ["left", "base"] (sp_law_next K) := by
  refine FunD.ok F sc_law_next (fun vs H Q E h => ?_) (fun cdv A outer s H vs Q E hr h => ⟨t_law_next K, PSs.nox (dr_law_next T  hr), pure_law_next T vs H Q E h⟩)
  obtain ⟨_, _, e, _⟩ := h
  rw [e]
  all_goals rfl
end
section
variable {σ : L2.St} {H : Hp} {D : Ends} {tz : TS} {l : Addr} {base : Int} {i j : Nat} {te : TE} {Q : VK}
theorem nxv (hσ : σ[i]? = some (some (.ref l))) (L : LeftAt H l) (hb : Ev te σ H (.int base)) (b0 : 1 ≤ base) (b1 : base ≤ 1000000) (k : ∀ r H', 0 ≤ r → r < base → Bt [l] H H' → LeftAt H' l → Q (.int r) H') : tCall (sp_law_next K) [] E0 (tCons (tVar i) (tCons te tNil)) σ H Q :=
  ⟨_, hσ, hb H (Ex.refl H) _ fun H1 e1 => ⟨l, base, rfl, L.ex e1, b0, b1, fun r H' r0 r1 b L' => k r H' r0 r1 ((Bt.ex e1).trans b) L'⟩⟩
theorem nx (hσ : σ[i]? = some (some (.ref l))) (L : LeftAt H l) (b0 : 1 ≤ base) (b1 : base ≤ 1000000) (k : ∀ r H', 0 ≤ r → r < base → Bt [l] H H' → LeftAt H' l → Q (.int r) H') : tCall (sp_law_next K) [] E0 (tCons (tVar i) (tCons (tC (.int base)) tNil)) σ H Q := nxv hσ L ev_c b0 b1 k
theorem q_nx (hσ : σ[i]? = some (some (.ref l))) (L : LeftAt H l) (b0 : 1 ≤ base) (b1 : base ≤ 1000000) (k : ∀ r H', 0 ≤ r → r < base → Bt [l] H H' → LeftAt H' l → tz D (σ.set j (some (.int r))) H') : tSeq (tAsg (tCall (sp_law_next K) [] E0 (tCons (tVar i) (tCons (tC (.int base)) tNil))) (gName j)) tz D σ H := nx hσ L b0 b1 k
end
/-! turns -/
structure TurnsOk (ts : List (Int × Int)) : Prop where
  up : ts.Pairwise fun a b => a.1 < b.1
  ok : ∀ t ∈ ts, 0 ≤ t.1 ∧ t.1 < 24 ∧ 1 ≤ t.2 ∧ t.2 ≤ 96
def sp_law_turns (K : PySem.W.Frag) : Sp := fun vs H Q _ => ∃ (l : Addr) (many : Nat), vs = [.ref l, .int (many : Int)] ∧ LeftAt H l ∧ many ≤ 4 ∧ ∀ v ts H', Bt [l] H H' → LeftAt H' l → TurnsOk ts → ts.length = many → Im K H' v (.tuple (ts.map pairD)) → Q v H'
/-- _law_turns -/
def t_law_turns (K : PySem.W.Frag) : TS :=
    (tSeq (tAsg (tCall (sp_law_next K) [] C8.E0 (tCons (tVar 0) (tCons (tC (.int 5)) tNil))) (gName 2))
    (tSeq (tAsg (tLst tNil) (gName 3))
    (tSeq (tFor (iRng1 (tCons (tVar 1) tNil)) (gName 4)
    (tSeq (tDrop (tBM K "list" rAppend (tVar 3) (tCons (tTup (tCons (tVar 2) (tCons (tOp rAddI (tC (.int 1)) (tCall (sp_law_next K) [] C8.E0 (tCons (tVar 0) (tCons (tC (.int 96)) tNil)))) tNil))) tNil)))
    (tAsg (tOp rAddI (tOp rAddI (tVar 2) (tC (.int 1))) (tCall (sp_law_next K) [] C8.E0 (tCons (tVar 0) (tCons (tC (.int 5)) tNil)))) (gName 2))))
    (tRet (tCB (rTupS K) (tCons (tVar 3) tNil))))))
theorem pure_law_turns (T : Wd K mg) (vs : List V) (H : Hp) (Q : VK) (E : XK) (h : sp_law_turns K vs H Q E) : t_law_turns K { nx := fun _ H' => Q .non H', rt := Q } (start ["left", "many", "place", "turns", "k"] vs) H := by
  obtain ⟨l, many, rfl, L, hm, k⟩ := h
  refine q_nx rfl L (by decide) (by decide) fun p0 H1 p00 p01 b1 L1 => ?_
  refine q_asgL (xs := []) (el_lst ea_nil (Nat.zero_le _)) fun q H2 hq e2 h2 => ?_
  have L2 := L1.ex e2
  have nlq := L1.new hq
  have hq0 : H q = none := by
    cases hx : H q with
    | none => rfl
    | some o =>
      have := b1 q o (by simpa using nlq.symm) hx
      rw [hq] at this
      cases this
  refine q_forR1 (n := (many : Int)) (ea_cons (ev_var rfl) ea_nil) (by omega) (fun i σ' H' => Bt [l] H H' ∧ LeftAt H' l ∧ ∃ (p : Int) (o4 : Option V) (ts : List (Int × Int)) (xs : List V), σ' = [some (.ref l), some (.int (many : Int)), some (.int p), some (.ref q), o4] ∧ H' q = some (.lst xs) ∧ ImAll K H' xs (ts.map pairD) ∧ TurnsOk ts ∧ ts.length = i ∧ (∀ t ∈ ts, t.1 < p) ∧ 0 ≤ p ∧ p ≤ 4 + 5 * (i : Int))
    (fun H3 e3 => ⟨(b1.trans (Bt.ex e2)).trans (Bt.ex e3), L2.ex e3, p0, none, [], [], rfl, e3 _ _ h2, .nil, ⟨List.Pairwise.nil, by simp⟩, rfl, by simp, p00, by omega⟩) ?_ ?_
  · rintro i σ' H3 hi ⟨b3, L3, p, o4, ts, xs, rfl, hx, ix, tok, tl, tp, pp0, pp1⟩
    have xl : xs.length = i := by rw [ix.length, List.length_map, tl]
    refine ⟨_, rfl, .inl ⟨rfl, xs, sq_of hx⟩, _, rfl, nx (base := 96) rfl L3 (by decide) (by decide) fun r H4 r0 r1 b4 L4 => ⟨1, r, rfl, rfl, sz_of (Nat.le_of_ble_eq_true rfl), fun t ht => ?_⟩⟩
    have hx4 := b4.at hx (by simpa using nlq.symm)
    have e5 : Ex H4 (upd H4 t (.tup [.int p, .int (1 + r)])) := Ex.new ht
    have it : Im K (upd H4 t (.tup [.int p, .int (1 + r)])) (.ref t) (pairD (p, 1 + r)) := .tup (st_of upd_same) (ImAll.ints [p, 1 + r])
    have ix5 := ImAll.ex e5 (ImAll.tx (L3.tx b4) _ _ ix)
    have hx5 := e5 _ _ hx4
    have L5 := L4.ex e5
    have b5 := (b3.trans b4).trans (Bt.ex (S := [l]) e5)
    refine ⟨q, xs, .ref t, rfl, rfl, hx5, sz_lt (by omega), ?_⟩
    generalize upd H4 t (.tup [.int p, .int (1 + r)]) = H5 at *
    have tx := Tx.updL (K := K) (o := .lst (xs ++ [.ref t])) hx5
    have ix6 := (ImAll.tx tx _ _ ix5).app (.cons (Im.tx tx _ _ it) .nil)
    have L6 := L5.upd (o := .lst (xs ++ [.ref t])) nlq
    have b6 := Bt.upd (o := .lst (xs ++ [.ref t])) b5 (.inr hq0)
    have hx6 : (upd H5 q (.lst (xs ++ [.ref t]))) q = some (.lst (xs ++ [.ref t])) := upd_same
    generalize upd H5 q (.lst (xs ++ [.ref t])) = H6 at *
    have im : (many : Int) ≤ 4 := by omega
    refine ⟨_, rfl, p, 1, rfl, rfl, nx (base := 5) rfl L6 (by decide) (by decide) fun s H7 s0 s1 b7 L7 => ⟨_, s, rfl, rfl, ?_⟩⟩
    refine ⟨b6.trans b7, L7, p + 1 + s, _, ts ++ [(p, 1 + r)], _, rfl, b7.at hx6 (by simpa using nlq.symm), by rw [List.map_append]; exact ImAll.tx (L6.tx b7) _ _ ix6, ⟨?_, ?_⟩, by rw [List.length_append, tl]; rfl, ?_, by omega, by omega⟩
    · rw [List.pairwise_append]
      exact ⟨tok.up, List.pairwise_singleton _ _, fun a ha b hb => by rw [List.mem_singleton.mp hb]; exact tp a ha⟩
    · intro t ht
      rw [List.mem_append, List.mem_singleton] at ht
      rcases ht with ht | rfl
      · exact tok.ok t ht
      · dsimp only
        omega
    · intro t ht
      rw [List.mem_append, List.mem_singleton] at ht
      rcases ht with ht | rfl
      · have := tp t ht
        omega
      · dsimp only
        omega
  · rintro σ' H3 ⟨b3, L3, p, o4, ts, xs, rfl, hx, ix, tok, tl, tp, pp0, pp1⟩
    try dsimp only
    exact s_retI (K := K) (d := .tuple (ts.map pairD)) (evi_tupOf (ev_var rfl) (.inl (sq_of hx)) ix) fun v H4 e4 i4 => k v ts H4 (b3.trans (Bt.ex e4)) (L3.ex e4) tok (by rw [tl]; omega) i4
section
variable {P : Program} {w : World} {K : PySem.W.Frag} {mg : Str → Option Value} {base : Heap}
theorem sc_law_turns : FnScope ["left", "many", "place", "turns", "k"] ["left", "many"] (defScope s_law_turns) := ⟨rfl, rfl, rfl, by decide +kernel, rfl, by decide +kernel, by decide +kernel⟩
theorem dr_law_turns (T : Wd K mg) (c_law_next : Cal P w K mg base 1 "_law_next" (sp_law_next K) []) {f : Addr} {cdv : Value} {A : Around} {outer : List Env} {s : Shared} {H : Hp} {E : XK} (hr : Room 1 (A.deeper (envOfC "_law_turns" (defScope s_law_turns) s.heap.objs.size f cdv))) :
    PSs (cxOf CX0 P w K mg base ["left", "many", "place", "turns", "k"] "_law_turns" (defScope s_law_turns) f cdv A outer s H E).nox (defBody s_law_turns) (t_law_turns K) := by
  have nd := sc_law_turns.nd
  exact (pss_cons (ps_set (i := 2) nd rfl (by first | exact Or.inl rfl | exact Or.inr rfl) (pe_c c_law_next hr (by decide) rfl (pa_cons (pv 0) (pa_cons pe_int pa_nil))))
    (pss_cons (ps_set (i := 3) nd rfl (by first | exact Or.inl rfl | exact Or.inr rfl) (pe_lst pa_nil))
    (pss_cons (ps_for PassesOwn.never rfl (pi_range1 (by rfl) (T.free 101) (pa_cons (pv 1) pa_nil)) (pg_name (i := 4) nd rfl (by first | exact Or.inl rfl | exact Or.inr rfl))
    (pss_cons (ps_expr (pe_bm PySem.F.plainAttrs_list PySem.F.slot_list_append PySem.F.type_list_append mt_append (pv 3) (pa_cons (pe_tup (pa_cons (pv 2) (pa_cons (pe_op op_add pe_int (pe_c c_law_next hr (by decide) rfl (pa_cons (pv 0) (pa_cons pe_int pa_nil)))) pa_nil))) pa_nil)))
    (pss_one (ps_set (i := 2) nd rfl (by first | exact Or.inl rfl | exact Or.inr rfl) (pe_op op_add (pe_op op_add (pv 2) pe_int) (pe_c c_law_next hr (by decide) rfl (pa_cons (pv 0) (pa_cons pe_int pa_nil))))))))
    (pss_one (ps_ret (pe_callTy call_tuple_of (by rfl) (T.free 106) (by decide +kernel) (pa_cons (pv 3) pa_nil)))))))
theorem ok_law_turns (T : Wd K mg) (c_law_next : Cal P w K mg base 1 "_law_next" (sp_law_next K) []) {f : Addr} {fd : FuncData} (F : FunD K ds_law_turns.name ds_law_turns.qual ds_law_turns.params ds_law_turns.body ds_law_turns.scope [] [] f fd) : FnOk P w K mg base CX0 2 f fd ["left", "many"] (sp_law_turns K) := by
  refine FunD.ok F sc_law_turns (fun vs H Q E h => ?_) (fun cdv A outer s H vs Q E hr h => ⟨t_law_turns K, PSs.nox (dr_law_turns T c_law_next hr), pure_law_turns T vs H Q E h⟩)
  obtain ⟨_, _, e, _⟩ := h
  rw [e]
  all_goals rfl
end
def turnedM (c : List Int) (ts : List (Int × Int)) : List Int := ts.foldl (fun m t => m.set t.1.toNat ((m.getD t.1.toNat 0 + t.2) % 97)) c
theorem turnedM_len (ts : List (Int × Int)) : ∀ c, (turnedM c ts).length = c.length := by
  induction ts with
  | nil => exact fun c => rfl
  | cons t ts ih =>
    intro c
    unfold turnedM
    rw [List.foldl_cons]
    exact (ih _).trans List.length_set
theorem turnedM_sig (ts : List (Int × Int)) : ∀ c, Sigs c → Sigs (turnedM c ts) := by
  induction ts with
  | nil => exact fun c h => h
  | cons t ts ih =>
    intro c h
    unfold turnedM
    rw [List.foldl_cons]
    refine ih _ fun n hn => ?_
    rcases List.mem_or_eq_of_mem_set hn with hn | rfl
    · exact h n hn
    · omega
theorem pair_inv {H : Hp} {v : V} {p : Int × Int} (h : Im K H v (pairD p)) : ∃ t, v = .ref t ∧ SqT K H t [.int p.1, .int p.2] := by
  obtain ⟨a, xs, rfl, hp, hi⟩ := Im.tup_inv h
  have := ImAll.ints_eq (ns := [p.1, p.2]) hi
  subst this
  exact ⟨a, rfl, hp⟩
def sp_law_turned (K : PySem.W.Frag) : Sp := fun vs H Q _ => ∃ (a : Addr) (v : V) (c : List Int) (ts : List (Int × Int)), vs = [.ref a, v] ∧ SqL K H a (c.map V.int) ∧ c.length = 24 ∧ TurnsOk ts ∧ Im K H v (.tuple (ts.map pairD)) ∧ RetL ((turnedM c ts).map V.int) H Q
/-- _law_turned -/
def t_law_turned (K : PySem.W.Frag) : TS :=
    (tSeq (tAsg (tCB (Evl.rListS K) (tCons (tVar 0) tNil)) (gName 2))
    (tSeq (tFor (iTup K (tVar 1)) (gTup K 2 (gCons (gName 3) (gCons (gName 4) gNil)))
    (tAsg (tOp rModI (tOp rAddI (tOp (rIxL K) (tVar 2) (tVar 3)) (tVar 4)) (tC (.int 97))) (gSub (tVar 2) (tVar 3) rSetL)))
    (tRet (tVar 2))))
theorem pure_law_turned (_ : Wd K mg) (vs : List V) (H : Hp) (Q : VK) (E : XK) (h : sp_law_turned K vs H Q E) : t_law_turned K { nx := fun _ H' => Q .non H', rt := Q } (start ["cell", "turns", "made", "place", "add"] vs) H := by
  obtain ⟨a, v, c, ts, rfl, hc, cl, tok, iv, k⟩ := h
  obtain ⟨b, xs, rfl, hb, ib⟩ := Im.tup_inv iv
  have xl : xs.length = ts.length := by rw [ib.length, List.length_map]
  refine q_asgL (xs := c.map V.int) (el_list (ev_var rfl) hc) fun l H1 hl e1 h1 => ?_
  refine q_forT (ev_var rfl) (ex_t e1 hb) (fun i σ' H' => Ex H H' ∧ (∃ o3 o4, σ' = [some (.ref a), some (.ref b), some (.ref l), o3, o4]) ∧ H' l = some (.lst ((turnedM c (ts.take i)).map V.int)))
    (fun H2 e2 => ⟨e1.trans e2, ⟨none, none, rfl⟩, e2 _ _ h1⟩) (fun i σ' H' _ q => ex_t q.1 hb) ?_ ?_
  · rintro i x σ' H' hx ⟨e, ⟨o3, o4, rfl⟩, hy⟩
    obtain ⟨dd, hdd, ix⟩ := ib.get hx
    rw [List.getElem?_map, Option.map_eq_some_iff] at hdd
    obtain ⟨t, ht, rfl⟩ := hdd
    obtain ⟨ta, rfl, hta⟩ := pair_inv (Im.ex e ix)
    have tk := tok.ok t (List.mem_of_getElem? ht)
    have ml := turnedM_len (ts.take i) c
    refine ⟨ta, _, rfl, hta, rfl, _, _, rfl, _, _, rfl, rfl, ?_⟩
    refine s_setL (j := t.1.toNat) (v := .int (((turnedM c (ts.take i)).getD t.1.toNat 0 + t.2) % 97)) hy (ev_op (ev_op (ev_op (ev_var rfl) (ev_var rfl) (rv_ixL (sq_of hy) (at_int (by omega) (by omega)))) (ev_var rfl) rv_I0) ev_c (rv_mod (by decide))) (ev_var rfl) (ev_is (ev_var rfl) (by congr 1; omega)) (by rw [List.length_map, ml]; omega) fun H2 e2 => ?_
    refine ⟨Ex.mut (e.trans e2) hl, ⟨_, _, rfl⟩, ?_⟩
    rw [upd_same, take_snoc ht]
    unfold turnedM
    rw [List.foldl_append, ← List.map_set]
    rfl
  · rintro σ' H' ⟨e, ⟨o3, o4, rfl⟩, hy⟩
    rw [xl, List.take_length] at hy
    exact s_ret (ev_var rfl) fun H2 e2 => k l H2 hl (e.trans e2) (e2 _ _ hy)
section
variable {P : Program} {w : World} {K : PySem.W.Frag} {mg : Str → Option Value} {base : Heap}
theorem sc_law_turned : FnScope ["cell", "turns", "made", "place", "add"] ["cell", "turns"] (defScope s_law_turned) := ⟨rfl, rfl, rfl, by decide +kernel, rfl, by decide +kernel, by decide +kernel⟩
theorem dr_law_turned (T : Wd K mg) {f : Addr} {cdv : Value} {A : Around} {outer : List Env} {s : Shared} {H : Hp} {E : XK} (hr : Room 0 (A.deeper (envOfC "_law_turned" (defScope s_law_turned) s.heap.objs.size f cdv))) :
    PSs (cxOf CX0 P w K mg base ["cell", "turns", "made", "place", "add"] "_law_turned" (defScope s_law_turned) f cdv A outer s H E).nox (defBody s_law_turned) (t_law_turned K) := by
  have nd := sc_law_turned.nd
  exact (pss_cons (ps_set (i := 2) nd rfl (by first | exact Or.inl rfl | exact Or.inr rfl) (pe_callTy call_list_of (by rfl) (T.free 98) (by decide +kernel) (pa_cons (pv 0) pa_nil)))
    (pss_cons (ps_for PassesOwn.never rfl (pi_tup (pv 1)) (pg_tup rfl (pgs_cons (pg_name (i := 3) nd rfl (by first | exact Or.inl rfl | exact Or.inr rfl)) (pgs_cons (pg_name (i := 4) nd rfl (by first | exact Or.inl rfl | exact Or.inr rfl)) pgs_nil)))
    (pss_one (ps_asg (pe_op op_mod (pe_op op_add (pe_ix ix_list (pv 2) (pv 3) (fun _ _ => rfl)) (pv 4)) pe_int) (pg_sub (pv 2) (pv 3) set_list))))
    (pss_one (ps_ret (pv 2)))))
theorem ok_law_turned (T : Wd K mg) {f : Addr} {fd : FuncData} (F : FunD K ds_law_turned.name ds_law_turned.qual ds_law_turned.params ds_law_turned.body ds_law_turned.scope [] [] f fd) : FnOk P w K mg base CX0 1 f fd ["cell", "turns"] (sp_law_turned K) := by
  refine FunD.ok F sc_law_turned (fun vs H Q E h => ?_) (fun cdv A outer s H vs Q E hr h => ⟨t_law_turned K, PSs.nox (dr_law_turned T  hr), pure_law_turned T vs H Q E h⟩)
  obtain ⟨_, _, _, _, e, _⟩ := h
  rw [e]
  all_goals rfl
end
def sp_law_unlike (_ : PySem.W.Frag) : Sp := fun vs H Q _ => ∃ (l : Addr) (most : Nat) (size : Int), vs = [.ref l, .int (most : Int), .int size] ∧ LeftAt H l ∧ most ≤ 100 ∧ 1 ≤ size ∧ size ≤ 1000 ∧ ∀ (p : Addr) (ns : List Int) H', H p = none → Bt [l] H H' → LeftAt H' l → H' p = some (.lst (ns.map V.int)) → ns.Nodup → (∀ n ∈ ns, 0 ≤ n ∧ n < size) → ns.length ≤ most → (1 ≤ most → 1 ≤ ns.length) → Q (.ref p) H'
/-- _law_unlike -/
def t_law_unlike (K : PySem.W.Frag) : TS :=
    (tSeq (tAsg (tLst tNil) (gName 3))
    (tSeq (tFor (iRng1 (tCons (tVar 1) tNil)) (gName 4)
    (tSeq (tAsg (tCall (sp_law_next K) [] C8.E0 (tCons (tVar 0) (tCons (tVar 2) tNil))) (gName 5))
    (tIfS (tTest (tOp (rIn K true) (tVar 5) (tVar 3))) (tDrop (tBM K "list" rAppend (tVar 3) (tCons (tVar 5) tNil))) tNext)))
    (tRet (tVar 3))))
theorem pure_law_unlike (_ : Wd K mg) (vs : List V) (H : Hp) (Q : VK) (E : XK) (h : sp_law_unlike K vs H Q E) : t_law_unlike K { nx := fun _ H' => Q .non H', rt := Q } (start ["left", "most", "size", "found", "k", "number"] vs) H := by
  obtain ⟨l, most, size, rfl, L, hm, s0, s1, k⟩ := h
  refine q_asgL (xs := []) (el_lst ea_nil (Nat.zero_le _)) fun q H1 hq e1 h1 => ?_
  have nlq := L.new hq
  refine q_forR1 (n := (most : Int)) (ea_cons (ev_var rfl) ea_nil) (by omega) (fun i σ' H' => Bt [l] H H' ∧ LeftAt H' l ∧ ∃ (o4 o5 : Option V) (ns : List Int), σ' = [some (.ref l), some (.int (most : Int)), some (.int size), some (.ref q), o4, o5] ∧ H' q = some (.lst (ns.map V.int)) ∧ ns.Nodup ∧ (∀ n ∈ ns, 0 ≤ n ∧ n < size) ∧ ns.length ≤ i ∧ (1 ≤ i → 1 ≤ ns.length))
    (fun H3 e3 => ⟨Bt.ex (e1.trans e3), L.ex (e1.trans e3), none, none, [], rfl, e3 _ _ h1, List.nodup_nil, by simp, Nat.zero_le _, fun h => absurd h (by decide)⟩) ?_ ?_
  · rintro i σ' H3 hi ⟨b3, L3, o4, o5, ns, rfl, hx, nd, bd, nl, ne⟩
    refine nxv (te := tVar 2) rfl L3 (ev_var rfl) s0 (by omega) fun r H4 r0 r1 b4 L4 => ?_
    have hx4 := b4.at hx (by simpa using nlq.symm)
    try dsimp only
    refine s_when (b := !decide (r ∈ ns)) (et_is (et_test (ev_op (ev_var rfl) (ev_var rfl) (rv_inInts (neg := true) (sq_of hx4)))) (by simp)) (fun hb H5 e5 => ?_) fun hb H5 e5 => ?_
    · have hr : r ∉ ns := by simpa using hb
      refine s_app (v := .int r) (e5 _ _ hx4) (ev_var rfl) (ev_var rfl) (by rw [List.length_map]; omega) fun H6 e6 => ?_
      refine ⟨Bt.upd ((b3.trans b4).trans (Bt.ex (e5.trans e6))) (.inr hq), ((L4.ex e5).ex e6).upd nlq, _, _, ns ++ [r], rfl, by rw [upd_same, List.map_append]; rfl, ?_, ?_, by rw [List.length_append]; simp; omega, fun _ => by rw [List.length_append]; simp⟩
      · rw [List.nodup_append]
        exact ⟨nd, by simp, fun a ha b hb z => by rw [List.mem_singleton.mp hb] at z; exact hr (z ▸ ha)⟩
      · intro n hn
        rw [List.mem_append, List.mem_singleton] at hn
        rcases hn with hn | rfl
        · exact bd n hn
        · exact ⟨r0, r1⟩
    · have hr : r ∈ ns := by simpa using hb
      exact ⟨(b3.trans b4).trans (Bt.ex e5), L4.ex e5, _, _, ns, rfl, e5 _ _ hx4, nd, bd, by omega, fun _ => List.length_pos_of_mem hr⟩
  · rintro σ' H3 ⟨b3, L3, o4, o5, ns, rfl, hx, nd, bd, nl, ne⟩
    try dsimp only
    exact s_ret (ev_var rfl) fun H4 e4 => k q ns H4 hq (b3.trans (Bt.ex e4)) (L3.ex e4) (e4 _ _ hx) nd bd (by omega) fun h => ne (by omega)
section
variable {P : Program} {w : World} {K : PySem.W.Frag} {mg : Str → Option Value} {base : Heap}
theorem sc_law_unlike : FnScope ["left", "most", "size", "found", "k", "number"] ["left", "most", "size"] (defScope s_law_unlike) := ⟨rfl, rfl, rfl, by decide +kernel, rfl, by decide +kernel, by decide +kernel⟩
theorem dr_law_unlike (T : Wd K mg) (c_law_next : Cal P w K mg base 1 "_law_next" (sp_law_next K) []) {f : Addr} {cdv : Value} {A : Around} {outer : List Env} {s : Shared} {H : Hp} {E : XK} (hr : Room 1 (A.deeper (envOfC "_law_unlike" (defScope s_law_unlike) s.heap.objs.size f cdv))) :
    PSs (cxOf CX0 P w K mg base ["left", "most", "size", "found", "k", "number"] "_law_unlike" (defScope s_law_unlike) f cdv A outer s H E).nox (defBody s_law_unlike) (t_law_unlike K) := by
  have nd := sc_law_unlike.nd
  exact (pss_cons (ps_set (i := 3) nd rfl (by first | exact Or.inl rfl | exact Or.inr rfl) (pe_lst pa_nil))
    (pss_cons (ps_for PassesOwn.never rfl (pi_range1 (by rfl) (T.free 101) (pa_cons (pv 1) pa_nil)) (pg_name (i := 4) nd rfl (by first | exact Or.inl rfl | exact Or.inr rfl))
    (pss_cons (ps_set (i := 5) nd rfl (by first | exact Or.inl rfl | exact Or.inr rfl) (pe_c c_law_next hr (by decide) rfl (pa_cons (pv 0) (pa_cons (pv 2) pa_nil))))
    (pss_one (ps_if (pt_cmpR op_notIn_seq (pv 5) (pv 3) (by rfl)) (pss_one (ps_expr (pe_bm PySem.F.plainAttrs_list PySem.F.slot_list_append PySem.F.type_list_append mt_append (pv 3) (pa_cons (pv 5) pa_nil)))) pss_nil))))
    (pss_one (ps_ret (pv 3)))))
theorem ok_law_unlike (T : Wd K mg) (c_law_next : Cal P w K mg base 1 "_law_next" (sp_law_next K) []) {f : Addr} {fd : FuncData} (F : FunD K ds_law_unlike.name ds_law_unlike.qual ds_law_unlike.params ds_law_unlike.body ds_law_unlike.scope [] [] f fd) : FnOk P w K mg base CX0 2 f fd ["left", "most", "size"] (sp_law_unlike K) := by
  refine FunD.ok F sc_law_unlike (fun vs H Q E h => ?_) (fun cdv A outer s H vs Q E hr h => ⟨t_law_unlike K, PSs.nox (dr_law_unlike T c_law_next hr), pure_law_unlike T vs H Q E h⟩)
  obtain ⟨_, _, _, e, _⟩ := h
  rw [e]
  all_goals rfl
end
end

end K85
end
section
set_option maxHeartbeats 400000
namespace K85
open PySem PySem.Spec PyProof.Rows
open L2 hiding CX0 E0 pass0
open C8 Evl
/-! ### tactics -/
local macro_rules | `(tactic| walk_at "side") => `(tactic| first | omega | assumption | rfl | decide)
local macro_rules | `(tactic| walk_at "at") => `(tactic| first | (refine at_int ?_ ?_ <;> first | omega | (simp; omega)) | assumption)
local macro_rules | `(tactic| walk_at "rv") => `(tactic| first
  | with_reducible exact rv_I0
  | ((with_reducible apply rv_eq); rfl)
  | ((with_reducible apply rv_ne); rfl)
  | ((with_reducible apply rv_mod); first | omega | decide)
  | ((with_reducible apply rv_mul); omega)
  | ((with_reducible apply rv_div); omega)
  | ((with_reducible apply rv_ixL); · assumption
     · walk_at "at")
  | ((with_reducible apply rv_ixT); · assumption
     · walk_at "at"))
local macro_rules | `(tactic| walk_at "ev") => `(tactic| first
  | ((with_reducible apply ev_var); rfl)
  | with_reducible exact ev_c
  | ((with_reducible apply ev_isN); walk_at "ev")
  | ((with_reducible apply ev_notN); walk_at "ev")
  | ((with_reducible apply ev_op); · walk_at "ev"
     · walk_at "ev"
     · walk_at "rv")
  | ((with_reducible apply ev_un); · walk_at "ev"
     · with_reducible exact ru_neg)
  | ((with_reducible apply ev_chain); · walk_at "ev"
     · walk_at "ev"
     · walk_at "rv"
     · intro _; walk_at "ev"
     · intro _; walk_at "rv")
  | ((with_reducible apply ev_len); · walk_at "ev"
     · assumption)
  | ((with_reducible apply ev_lenT); · walk_at "ev"
     · assumption)
  | ((with_reducible apply ev_andV); · walk_at "ev"
     · intro _; walk_at "ev")
  | with_reducible assumption)
local macro_rules | `(tactic| walk_at "evt") => `(tactic| first
  | ((with_reducible apply et_or); · walk_at "evt"
     · intro _; walk_at "evt")
  | ((with_reducible apply et_and); · walk_at "evt"
     · intro _; walk_at "evt")
  | ((with_reducible apply et_not); walk_at "evt")
  | ((with_reducible apply et_test); walk_at "ev")
  | ((with_reducible apply et_B); walk_at "ev")
  | with_reducible assumption)
local macro_rules | `(tactic| walk_at "bool") => `(tactic| first | rfl | (simp; done) | (simp; omega) | (simp; intros; omega) | grind)
/-! ### a letter, news: plain -/
def nameL : List Str := ["a", "k", "zz", "abcd"]
def nameS : List Str := ["a", "abcd", "k", "zz"]
theorem nameL_ok : ∀ s ∈ nameL, NameOk s := by
  intro s h
  simp only [nameL, List.mem_cons, List.not_mem_nil, or_false] at h
  rcases h with rfl | rfl | rfl | rfl <;> exact ⟨by decide +kernel, by decide +kernel, by decide +kernel⟩
theorem nameS_srt (p : Str → Bool) : PyProof.Rows.sortedS (nameS.filter p) = true := by
  unfold nameS
  simp only [List.filter_cons, List.filter_nil]
  cases p "a" <;> cases p "abcd" <;> cases p "k" <;> cases p "zz" <;> decide +kernel
theorem nameL_nodup : nameL.Nodup := by decide +kernel
theorem nameS_nodup : nameS.Nodup := by decide +kernel
theorem nameLS (s : Str) : s ∈ nameL ↔ s ∈ nameS := by
  simp only [nameL, nameS, List.mem_cons, List.not_mem_nil, or_false]
  constructor <;> rintro (h | h | h | h) <;> simp [h]
/-- the names that are told -/
theorem names_made {ns : List Int} (nd : ns.Nodup) (bd : ∀ n ∈ ns, 0 ≤ n ∧ n < 4) (hl : ns.length ≤ 4) : ∃ ms : List Str, (ns.map fun n => nameL.getD n.toNat "").Perm ms ∧ NamesOk ms ∧ PyProof.Rows.sortedS ms = true := by
  have mem : ∀ n ∈ ns, nameL.getD n.toNat "" ∈ nameL := fun n hn => by
    have := bd n hn
    rw [List.getD_eq_getElem?_getD, List.getElem?_eq_getElem (show n.toNat < nameL.length by show n.toNat < 4; omega)]
    exact List.getElem_mem _
  have nds : (ns.map fun n => nameL.getD n.toNat "").Nodup := by
    rw [List.Nodup, List.pairwise_map]
    refine (List.pairwise_iff_forall_sublist.mpr ?_)
    intro a b hs hz
    have ha := bd a (hs.subset (by simp))
    have hb := bd b (hs.subset (by simp))
    have hne : a ≠ b := by
      have := nd.sublist hs
      simpa using this
    have hla : a.toNat < nameL.length := by show a.toNat < 4; omega
    have hlb : b.toNat < nameL.length := by show b.toNat < 4; omega
    rw [List.getD_eq_getElem?_getD, List.getElem?_eq_getElem hla, List.getD_eq_getElem?_getD, List.getElem?_eq_getElem hlb] at hz
    have pw := List.pairwise_iff_getElem.mp nameL_nodup
    have h1 : ¬ a.toNat < b.toNat := fun h => pw _ _ hla hlb h (Option.some.inj (congrArg some hz))
    have h2 : ¬ b.toNat < a.toNat := fun h => pw _ _ hlb hla h (Option.some.inj (congrArg some hz.symm))
    omega
  have pm : (ns.map fun n => nameL.getD n.toNat "").Perm (nameS.filter fun s => decide (s ∈ ns.map fun n => nameL.getD n.toNat "")) := by
    refine (List.perm_ext_iff_of_nodup nds (nameS_nodup.filter _)).mpr fun s => ?_
    rw [List.mem_filter]
    constructor
    · intro h
      obtain ⟨n, hn, rfl⟩ := List.mem_map.mp h
      exact ⟨(nameLS _).mp (mem n hn), decide_eq_true h⟩
    · exact fun h => of_decide_eq_true h.2
  refine ⟨_, pm, ⟨?_, nameS_nodup.filter _, fun s hs => nameL_ok s ((nameLS s).mpr (List.mem_filter.mp hs).1)⟩, nameS_srt _⟩
  exact Nat.le_trans (List.length_filter_le _ _) (by decide)
theorem srt_strict : ∀ {ns : List Int}, ns.Pairwise (· ≤ ·) → ns.Nodup → ns.Pairwise (· < ·) := fun h nd => (h.and nd).imp fun h => by omega
section
variable {K : PySem.W.Frag} {mg : Str → Option Value}
theorem Bt.none_back {S : List Addr} {H H' : Hp} (b : Bt S H H') {q : Addr} (hq : H' q = none) (hs : ∀ x ∈ S, q ≠ x) : H q = none := by
  cases hx : H q with
  | none => rfl
  | some o =>
    have := b q o (fun z => hs q z rfl) hx
    rw [hq] at this
    cases this
theorem LeftAt.back {H H' : Hp} {l q : Addr} (b : Bt [l] H H') (L : LeftAt H' l) (hq : H' q = none) : H q = none := b.none_back hq fun x hx => by
  rw [List.mem_singleton.mp hx]
  exact (L.new hq).symm
def sp_law_news (K : PySem.W.Frag) : Sp := fun vs H Q _ => ∃ (l : Addr), vs = [.ref l] ∧ LeftAt H l ∧ ∀ v (N : News) H', Bt [l] H H' → LeftAt H' l → N.Ok → Im K H' v N.data → Q v H'
/-- _law_news -/
def t_law_news (K : PySem.W.Frag) : TS :=
    (tSeq (tAsg (tCall (sp_law_next K) [] C8.E0 (tCons (tVar 0) (tCons (tC (.int 6)) tNil))) (gName 1))
    (tSeq (tAsg (tLst tNil) (gName 2))
    (tSeq (tFor (iList K (tCB (rSortedI K) (tCons (tCall (sp_law_unlike K) [] C8.E0 (tCons (tVar 0) (tCons (tCall (sp_law_next K) [] C8.E0 (tCons (tVar 0) (tCons (tC (.int 6)) tNil))) (tCons (tC (.int 6)) tNil)))) tNil))) (gName 3)
    (tIfS (tTest (tOp rNe (tVar 3) (tVar 1))) (tSeq (tAsg (tLst (tCons (tOp rAddI (tC (.int 1)) (tCall (sp_law_next K) [] C8.E0 (tCons (tVar 0) (tCons (tC (.int 2)) tNil)))) (tCons (tOp rAddI (tC (.int 1)) (tCall (sp_law_next K) [] C8.E0 (tCons (tVar 0) (tCons (tC (.int 2)) tNil)))) tNil))) (gName 4))
    (tDrop (tBM K "list" rAppend (tVar 2) (tCons (tTup (tCons (tVar 3) (tCons (tOp rAddI (tC (.int 1)) (tOp rModI (tOp rAddI (tOp rAddI (tOp rMulI (tVar 1) (tVar 3)) (tVar 1)) (tVar 3)) (tC (.int 10)))) (tCons (tCB (rTupS K) (tCons (tVar 4) tNil)) tNil)))) tNil)))) tNext))
    (tSeq (tAsg (tLc (iList K (tCall (sp_law_unlike K) [] C8.E0 (tCons (tVar 0) (tCons (tCall (sp_law_next K) [] C8.E0 (tCons (tVar 0) (tCons (tC (.int 4)) tNil))) (tCons (tC (.int 4)) tNil))))) (gName 7) tYes (tOp (rIxL K) (tLst (tCons (tC (.str "a")) (tCons (tC (.str "k")) (tCons (tC (.str "zz")) (tCons (tC (.str "abcd")) tNil))))) (tVar 7)) [7]) (gName 5))
    (tSeq (tAsg (tOp rAddI (tVar 1) (tOp rMulI (tC (.int 6)) (tCall (sp_law_next K) [] C8.E0 (tCons (tVar 0) (tCons (tC (.int 4)) tNil))))) (gName 6))
    (tRet (tCall (sp_made_news K) [] C8.E0 (tCons (tVar 1) (tCons (tVar 6) (tCons (tVar 2) (tCons (tVar 5) tNil)))))))))))
theorem pure_law_news (T : Wd K mg) (vs : List V) (H : Hp) (Q : VK) (E : XK) (h : sp_law_news K vs H Q E) : t_law_news K { nx := fun _ H' => Q .non H', rt := Q } (start ["left", "house", "near", "other", "births", "names", "number", "k"] vs) H := by
  obtain ⟨l, rfl, L, k⟩ := h
  refine q_nx rfl L (by decide) (by decide) fun house H1 h00 h01 b1 L1 => ?_
  refine q_asgL (xs := []) (el_lst ea_nil (Nat.zero_le _)) fun q H2 hq e2 h2 => ?_
  have L2 := L1.ex e2
  have nlq := L1.new hq
  have hq0 := L1.back b1 hq
  have b2 := b1.trans (Bt.ex (S := [l]) e2)
  refine ⟨_, rfl, nx (base := 6) rfl L2 (by decide) (by decide) fun most H3 m0 m1 b3 L3 => ⟨l, most.toNat, 6, by rw [show ((most.toNat : Nat) : Int) = most by omega]; rfl, L3, by omega, by decide, by decide, fun p ns H4 hp b4 L4 hpn nd bd nl _ => ?_⟩⟩
  refine ⟨p, ns, rfl, sq_of hpn, fun os po pm sr hpo => ⟨po, rfl, ⟨_, sq_of upd_same⟩, ?_⟩⟩
  have up := srt_strict sr (pm.nodup_iff.mpr nd)
  have obd : ∀ o ∈ os, 0 ≤ o ∧ o < 6 := fun o ho => bd o (pm.mem_iff.mp ho)
  have ol : os.length ≤ 5 := by rw [pm.length_eq]; omega
  have b24 := (b2.trans b3).trans b4
  have nlpo := L4.new hpo
  have hq4 : H4 q = some (.lst []) := (b3.trans b4).at h2 (by simpa using nlq.symm)
  have npoq : q ≠ po := ne_of_none hq4 hpo
  have hpo0 := L4.back b24 hpo
  have e5 : Ex H4 (upd H4 po (.lst (os.map V.int))) := Ex.new hpo
  have hpo5 : (upd H4 po (.lst (os.map V.int))) po = some (.lst (os.map V.int)) := upd_same
  generalize upd H4 po (.lst (os.map V.int)) = H5 at *
  refine for_list (K := K) (a := po) (xs := os.map V.int) (fun i σ' H' => Bt [l] H H' ∧ LeftAt H' l ∧ H' po = some (.lst (os.map V.int)) ∧ ∃ (o3 o4 : Option V) (ts : List Near) (xs : List V), σ' = [some (.ref l), some (.int house), some (.ref q), o3, o4, none, none, none] ∧ H' q = some (.lst xs) ∧ ImAll K H' xs (ts.map nearD) ∧ ts.length ≤ i ∧ ts.Pairwise (fun a b => a.1 < b.1) ∧ (∀ t ∈ ts, t.1 ∈ os.take i) ∧ ∀ t ∈ ts, t.1 ≠ house ∧ 0 ≤ t.1 ∧ t.1 ≤ 31 ∧ 1 ≤ t.2.1 ∧ t.2.1 ≤ 10 ∧ 1 ≤ t.2.2.1 ∧ t.2.2.1 ≤ 9000 ∧ 1 ≤ t.2.2.2 ∧ t.2.2.2 ≤ 9000)
    ⟨b24.trans (Bt.ex e5), L4.ex e5, hpo5, none, none, [], [], rfl, e5 _ _ hq4, .nil, Nat.zero_le _, List.Pairwise.nil, by simp, by simp⟩ (fun i σ' H' _ q => sq_of q.2.2.1) ?_ ?_
  · rintro i x σ' H6 hx ⟨b6, L6, hpo6, o3, o4, ts, xs, rfl, hxs, ixs, tl, tup, tin, tok⟩
    rw [List.getElem?_map, Option.map_eq_some_iff] at hx
    obtain ⟨o, ho, rfl⟩ := hx
    have ob := obd o (List.mem_of_getElem? ho)
    have oil := (List.getElem?_eq_some_iff.mp ho).1
    refine s_when (b := !decide (o = house)) (et_is (et_test (ev_op (ev_var rfl) (ev_var rfl) (rv_ne rfl))) (by simp)) (fun hb H7 e7 => ?_) fun hb H7 e7 => ?_
    · have hne : o ≠ house := by simpa using hb
      have L7 := L6.ex e7
      refine nx (base := 2) rfl L7 (by decide) (by decide) fun r1 H8 r10 r11 b8 L8 => ⟨1, r1, rfl, rfl, nx (base := 2) rfl L8 (by decide) (by decide) fun r2 H9 r20 r21 b9 L9 => ⟨1, r2, rfl, rfl, sz_of (Nat.le_of_ble_eq_true rfl), fun bl hbl => ?_⟩⟩
      have e10 : Ex H9 (upd H9 bl (.lst [.int (1 + r1), .int (1 + r2)])) := Ex.new hbl
      have hbl10 : (upd H9 bl (.lst [.int (1 + r1), .int (1 + r2)])) bl = some (.lst ([1 + r1, 1 + r2].map V.int)) := upd_same
      have L10 := L9.ex e10
      generalize upd H9 bl (.lst [.int (1 + r1), .int (1 + r2)]) = H10 at *
      have b7_10 := ((Bt.ex (S := [l]) e7).trans (b8.trans b9)).trans (Bt.ex e10)
      have hx10 := b7_10.at hxs (by simpa using nlq.symm)
      have hpo10 := b7_10.at hpo6 (by simpa using nlpo.symm)
      have ix10 := ImAll.tx (L6.tx b7_10) _ _ ixs
      refine ⟨_, rfl, .inl ⟨rfl, xs, sq_of hx10⟩, ?_⟩
      refine evi_tup (K := K) (ds := [.int o, .int (1 + (house * o + house + o) % 10), .tuple ([1 + r1, 1 + r2].map PyData.int)]) (evi_cons (evi_int (ev_var rfl)) (evi_cons (evi_int (ev_op ev_c (ev_op (ev_op (ev_op (ev_op (ev_var rfl) (ev_var rfl) (rv_mul (.inl (by omega)))) (ev_var rfl) rv_I0) (ev_var rfl) rv_I0) ev_c (rv_mod (by decide))) rv_I0)) (evi_cons (evi_tupOf (ev_var rfl) (.inl (sq_of hbl10)) (ImAll.ints _)) evi_nil))) (Nat.le_of_ble_eq_true rfl) H10 (Ex.refl H10) _ fun v H11 e11 i11 => ?_
      have hx11 := e11 _ _ hx10
      refine ⟨q, xs, v, rfl, rfl, hx11, sz_lt (by rw [ixs.length, List.length_map]; omega), ?_⟩
      have im := Int.emod_nonneg (house * o + house + o) (show (10 : Int) ≠ 0 by decide)
      have im2 := Int.emod_lt_of_pos (house * o + house + o) (show (0 : Int) < 10 by decide)
      refine ⟨Bt.upd (b6.trans (b7_10.trans (Bt.ex e11))) (.inr hq0), (L10.ex e11).upd nlq, by rw [upd_ne npoq.symm]; exact e11 _ _ hpo10, _, _, ts ++ [(o, 1 + (house * o + house + o) % 10, 1 + r1, 1 + r2)], _, rfl, upd_same, ?_, by rw [List.length_append]; simp; omega, ?_, ?_, ?_⟩
      · rw [List.map_append]
        have tx := Tx.updL (K := K) (o := .lst (xs ++ [v])) hx11
        exact (ImAll.tx tx _ _ (ImAll.ex e11 ix10)).app (.cons (Im.tx tx _ _ i11) .nil)
      · rw [List.pairwise_append]
        refine ⟨tup, List.pairwise_singleton _ _, fun a ha b hb => ?_⟩
        rw [List.mem_singleton.mp hb]
        have ha := tin a ha
        obtain ⟨j, hj, hm⟩ := List.mem_iff_getElem.mp ha
        rw [List.getElem_take] at hm
        rw [List.length_take] at hj
        have := (List.pairwise_iff_getElem.mp up) j i (by omega) oil (by omega)
        rw [hm, show os[i] = o from Option.some.inj ((List.getElem?_eq_getElem oil).symm.trans ho)] at this
        exact this
      · intro t ht
        rw [take_snoc ho, List.mem_append]
        rw [List.mem_append, List.mem_singleton] at ht
        rcases ht with ht | rfl
        · exact .inl (tin t ht)
        · exact .inr (by simp)
      · intro t ht
        rw [List.mem_append, List.mem_singleton] at ht
        rcases ht with ht | rfl
        · exact tok t ht
        · dsimp only
          refine ⟨hne, ?_⟩
          omega
    · refine ⟨b6.trans (Bt.ex e7), L6.ex e7, e7 _ _ hpo6, _, _, ts, xs, rfl, e7 _ _ hxs, ImAll.ex e7 ixs, by omega, tup, fun t ht => ?_, tok⟩
      rw [take_snoc ho, List.mem_append]
      exact .inl (tin t ht)
  · rintro σ' H6 ⟨b6, L6, hpo6, o3, o4, ts, xs, rfl, hxs, ixs, tl, tup, tin, tok⟩
    rw [List.length_map] at tl
    refine ⟨_, rfl, nx (base := 4) rfl L6 (by decide) (by decide) fun most2 H7 m20 m21 b7 L7 => ⟨l, most2.toNat, 4, by rw [show ((most2.toNat : Nat) : Int) = most2 by omega]; rfl, L7, by omega, by decide, by decide, fun p2 ns2 H8 hp2 b8 L8 hpn2 nd2 bd2 nl2 _ => ?_⟩⟩
    have b68 := b7.trans b8
    obtain ⟨ms, pms, mok, msr⟩ := names_made nd2 bd2 (by omega)
    suffices key : tLc (iList K (tC (.ref p2))) (gName 7) tYes (tOp (rIxL K) (tLst (tCons (tC (.str "a")) (tCons (tC (.str "k")) (tCons (tC (.str "zz")) (tCons (tC (.str "abcd")) tNil))))) (tVar 7)) [7] [some (.ref l), some (.int house), some (.ref q), o3, o4, none, none, none] H8 (fun x H9 => tSeq (tAsg (tOp rAddI (tVar 1) (tOp rMulI (tC (.int 6)) (tCall (sp_law_next K) [] E0 (tCons (tVar 0) (tCons (tC (.int 4)) tNil))))) (gName 6)) (tRet (tCall (sp_made_news K) [] E0 (tCons (tVar 1) (tCons (tVar 6) (tCons (tVar 2) (tCons (tVar 5) tNil)))))) { nx := fun _ H' => Q .non H', rt := Q } [some (.ref l), some (.int house), some (.ref q), o3, o4, some x, none, none] H9) from key
    refine el_lcL (K := K) (fun _ => true) (fun i => .str (nameL.getD (ns2.getD i 0).toNat "")) ev_c (sq_of hpn2) (by rw [List.length_map]; omega) (fun x => rfl) (fun _ _ _ _ _ => et_yes) (fun i x H9 e9 hx _ => ?_) H8 (Ex.refl H8) _ fun nl H9 hnl e9 h9 => ?_
    · rw [List.getElem?_map, Option.map_eq_some_iff] at hx
      obtain ⟨n, hn, rfl⟩ := hx
      have nb := bd2 n (List.mem_of_getElem? hn)
      rw [List.getD_eq_getElem?_getD (l := ns2), hn]
      refine ev_opL1 (xs := nameL.map V.str) (el_lst (ea_cons ev_c (ea_cons ev_c (ea_cons ev_c (ea_cons ev_c ea_nil)))) (Nat.le_of_ble_eq_true rfl)) (fun H1 _ => ev_var rfl) fun p H1 hp _ => rv_ixL (sq_of hp) (at_nat nb.1 ?_)
      have : n.toNat < nameL.length := by show n.toNat < 4; omega
      rw [List.getElem?_map]
      show _ = some (V.str (nameL.getD n.toNat ""))
      rw [List.getD_eq_getElem?_getD, List.getElem?_eq_getElem this]
      rfl
    · have hnames : H9 nl = some (.lst ((ns2.map fun n => nameL.getD n.toNat "").map V.str)) := by
        rw [h9, given_all, List.length_map, range_getD (fun n : Int => V.str (nameL.getD n.toNat "")), List.map_map]
        rfl
      have L9 := L8.ex e9
      have hxs9 := (b68.trans (Bt.ex e9)).at hxs (by simpa using nlq.symm)
      have ix9 := ImAll.ex e9 (ImAll.tx (L6.tx b68) _ _ ixs)
      have nlnl := L8.new hnl
      refine ⟨_, rfl, nx (base := 4) rfl L9 (by decide) (by decide) fun r H10 r0 r1 b10 L10 => ⟨6, r, rfl, rfl, .inl ⟨by decide, by decide⟩, house, 6 * r, rfl, rfl, ?_⟩⟩
      have hxs10 := b10.at hxs9 (by simpa using nlq.symm)
      have hn10 := b10.at hnames (by simpa using nlnl.symm)
      refine ⟨_, rfl, _, rfl, _, rfl, _, rfl, ⟨house, house + 6 * r, ts, ms⟩, _, q, nl, xs, rfl, ⟨by dsimp only; omega, by dsimp only; omega, ⟨by dsimp only; omega, tup, tok⟩, mok, msr⟩, sq_of hxs10, ImAll.tx (L9.tx b10) _ _ ix9, sq_of hn10, pms, fun v H11 e11 i11 => ?_⟩
      exact k v _ H11 ((b6.trans ((b68.trans (Bt.ex e9)).trans b10)).trans (Bt.ex e11)) (L10.ex e11) ⟨by dsimp only; omega, by dsimp only; omega, ⟨by dsimp only; omega, tup, tok⟩, mok, msr⟩ i11
section
variable {P : Program} {w : World} {K : PySem.W.Frag} {mg : Str → Option Value} {base : Heap}
theorem sc_law_news : FnScope ["left", "house", "near", "other", "births", "names", "number", "k"] ["left"] (defScope s_law_news) := ⟨rfl, rfl, rfl, by decide +kernel, rfl, by decide +kernel, by decide +kernel⟩
theorem dr_law_news (T : Wd K mg) (c_law_next : Cal P w K mg base 1 "_law_next" (sp_law_next K) []) (c_law_unlike : Cal P w K mg base 2 "_law_unlike" (sp_law_unlike K) []) (c_made_news : Cal P w K mg base 3 "made_news" (sp_made_news K) []) {f : Addr} {cdv : Value} {A : Around} {outer : List Env} {s : Shared} {H : Hp} {E : XK} (hr : Room 3 (A.deeper (envOfC "_law_news" (defScope s_law_news) s.heap.objs.size f cdv))) :
    PSs (cxOf CX0 P w K mg base ["left", "house", "near", "other", "births", "names", "number", "k"] "_law_news" (defScope s_law_news) f cdv A outer s H E).nox (defBody s_law_news) (t_law_news K) := by
  have nd := sc_law_news.nd
  exact (pss_cons (ps_set (i := 1) nd rfl (by first | exact Or.inl rfl | exact Or.inr rfl) (pe_c c_law_next hr (by decide) rfl (pa_cons (pv 0) (pa_cons pe_int pa_nil))))
    (pss_cons (ps_set (i := 2) nd rfl (by first | exact Or.inl rfl | exact Or.inr rfl) (pe_lst pa_nil))
    (pss_cons (ps_for PassesOwn.never rfl (pi_list (pe_callB cr_sortedI (by rfl) (T.free 104) (by decide +kernel) (pa_cons (pe_c c_law_unlike hr (by decide) rfl (pa_cons (pv 0) (pa_cons (pe_c c_law_next hr (by decide) rfl (pa_cons (pv 0) (pa_cons pe_int pa_nil))) (pa_cons pe_int pa_nil)))) pa_nil))) (pg_name (i := 3) nd rfl (by first | exact Or.inl rfl | exact Or.inr rfl))
    (pss_one (ps_if (pt_cmpR op_ne (pv 3) (pv 1) (nomark _)) (pss_cons (ps_set (i := 4) nd rfl (by first | exact Or.inl rfl | exact Or.inr rfl) (pe_lst (pa_cons (pe_op op_add pe_int (pe_c c_law_next hr (by decide) rfl (pa_cons (pv 0) (pa_cons pe_int pa_nil)))) (pa_cons (pe_op op_add pe_int (pe_c c_law_next hr (by decide) rfl (pa_cons (pv 0) (pa_cons pe_int pa_nil)))) pa_nil))))
    (pss_one (ps_expr (pe_bm PySem.F.plainAttrs_list PySem.F.slot_list_append PySem.F.type_list_append mt_append (pv 2) (pa_cons (pe_tup (pa_cons (pv 3) (pa_cons (pe_op op_add pe_int (pe_op op_mod (pe_op op_add (pe_op op_add (pe_op op_mul (pv 1) (pv 3)) (pv 1)) (pv 3)) pe_int)) (pa_cons (pe_callTy call_tuple_of (by rfl) (T.free 106) (by decide +kernel) (pa_cons (pv 4) pa_nil)) pa_nil)))) pa_nil))))) pss_nil)))
    (pss_cons (ps_setLc (i := 5) (own := [("k", 7)]) (g := (gName 7)) (tt := tYes) rfl nd rfl rfl (sw_true rfl rfl rfl (by decide +kernel)) (pi_list (pe_c c_law_unlike hr (by decide) rfl (pa_cons (pv 0) (pa_cons (pe_c c_law_next hr (by decide) rfl (pa_cons (pv 0) (pa_cons pe_int pa_nil))) (pa_cons pe_int pa_nil))))) (blkOk_by (by kernel_rfl)) (fun _ _ _ _ _ => (pg_name (i := 7) nd rfl (by first | exact Or.inl rfl | exact Or.inr rfl))) (fun _ _ _ _ _ => pts_nil) (fun _ _ _ _ _ => (pe_ix ix_list (pe_lst (pa_cons pe_str (pa_cons pe_str (pa_cons pe_str (pa_cons pe_str pa_nil))))) (pv 7) (fun _ _ => rfl))))
    (pss_cons (ps_set (i := 6) nd rfl (by first | exact Or.inl rfl | exact Or.inr rfl) (pe_op op_add (pv 1) (pe_op op_mul pe_int (pe_c c_law_next hr (by decide) rfl (pa_cons (pv 0) (pa_cons pe_int pa_nil))))))
    (pss_one (ps_ret (pe_c c_made_news hr (by decide) rfl (pa_cons (pv 1) (pa_cons (pv 6) (pa_cons (pv 2) (pa_cons (pv 5) pa_nil))))))))))))
theorem ok_law_news (T : Wd K mg) (c_law_next : Cal P w K mg base 1 "_law_next" (sp_law_next K) []) (c_law_unlike : Cal P w K mg base 2 "_law_unlike" (sp_law_unlike K) []) (c_made_news : Cal P w K mg base 3 "made_news" (sp_made_news K) []) {f : Addr} {fd : FuncData} (F : FunD K ds_law_news.name ds_law_news.qual ds_law_news.params ds_law_news.body ds_law_news.scope [] [] f fd) : FnOk P w K mg base CX0 4 f fd ["left"] (sp_law_news K) := by
  refine FunD.ok F sc_law_news (fun vs H Q E h => ?_) (fun cdv A outer s H vs Q E hr h => ⟨t_law_news K, PSs.nox (dr_law_news T c_law_next c_law_unlike c_made_news hr), pure_law_news T vs H Q E h⟩)
  obtain ⟨_, e, _⟩ := h
  rw [e]
  all_goals rfl
end
end

end K85
end
section
set_option maxHeartbeats 400000
namespace K85
open PySem PySem.Spec PyProof.Rows
open L2 hiding CX0 E0 pass0
open C8 Evl
/-! ### tactics -/
local macro_rules | `(tactic| walk_at "side") => `(tactic| first | omega | assumption | rfl | decide)
local macro_rules | `(tactic| walk_at "at") => `(tactic| first | (refine at_int ?_ ?_ <;> first | omega | (simp; omega)) | assumption)
local macro_rules | `(tactic| walk_at "rv") => `(tactic| first
  | with_reducible exact rv_I0
  | ((with_reducible apply rv_eq); rfl)
  | ((with_reducible apply rv_ne); rfl)
  | ((with_reducible apply rv_mod); first | omega | decide)
  | ((with_reducible apply rv_mul); omega)
  | ((with_reducible apply rv_div); omega)
  | ((with_reducible apply rv_ixL); · assumption
     · walk_at "at")
  | ((with_reducible apply rv_ixT); · assumption
     · walk_at "at"))
local macro_rules | `(tactic| walk_at "ev") => `(tactic| first
  | ((with_reducible apply ev_var); rfl)
  | with_reducible exact ev_c
  | ((with_reducible apply ev_isN); walk_at "ev")
  | ((with_reducible apply ev_notN); walk_at "ev")
  | ((with_reducible apply ev_op); · walk_at "ev"
     · walk_at "ev"
     · walk_at "rv")
  | ((with_reducible apply ev_un); · walk_at "ev"
     · with_reducible exact ru_neg)
  | ((with_reducible apply ev_chain); · walk_at "ev"
     · walk_at "ev"
     · walk_at "rv"
     · intro _; walk_at "ev"
     · intro _; walk_at "rv")
  | ((with_reducible apply ev_len); · walk_at "ev"
     · assumption)
  | ((with_reducible apply ev_lenT); · walk_at "ev"
     · assumption)
  | ((with_reducible apply ev_andV); · walk_at "ev"
     · intro _; walk_at "ev")
  | with_reducible assumption)
local macro_rules | `(tactic| walk_at "evt") => `(tactic| first
  | ((with_reducible apply et_or); · walk_at "evt"
     · intro _; walk_at "evt")
  | ((with_reducible apply et_and); · walk_at "evt"
     · intro _; walk_at "evt")
  | ((with_reducible apply et_not); walk_at "evt")
  | ((with_reducible apply et_test); walk_at "ev")
  | ((with_reducible apply et_B); walk_at "ev")
  | with_reducible assumption)
local macro_rules | `(tactic| walk_at "bool") => `(tactic| first | rfl | (simp; done) | (simp; omega) | (simp; intros; omega) | grind)
section
variable {K : PySem.W.Frag} {mg : Str → Option Value}
/-- [_law_next(left, 97) for k in range(n)] -/
theorem lcNext {σ : L2.St} {H : Hp} {l : Addr} {i j : Nat} {Q : VK} {n : Int} (hσ : ∀ x, ((wipe σ [j]).set j (some x))[i]? = some (some (.ref l))) (hw : ∀ x, wipe ((wipe σ [j]).set j (some x)) [j] = wipe σ [j]) (L : LeftAt H l) (n0 : 0 ≤ n) (n1 : n ≤ 1000)
    (k : ∀ (p : Addr) (ns : List Int) H', H p = none → Bt [l] H H' → LeftAt H' l → H' p = some (.lst (ns.map V.int)) → Sigs ns → (ns.length : Int) = n → Q (.ref p) H') : tLc (iRng1 (tCons (tC (.int n)) tNil)) (gName j) tYes (tCall (sp_law_next K) [] E0 (tCons (tVar i) (tCons (tC (.int 97)) tNil))) [j] σ H Q := by
  refine ⟨n, rfl, by omega, by omega, fun Dl hD => ?_⟩
  have nlD := L.new hD
  refine lc_range (lo := 0) (n := n.toNat) (fun u H' => Bt [l] H H' ∧ LeftAt H' l ∧ ∃ ns : List Int, H' Dl = some (.lst (ns.map V.int)) ∧ Sigs ns ∧ ns.length = u) ⟨Bt.upd (Bt.refl _ _) (.inr hD), L.upd nlD, [], upd_same, (by intro n hn; cases hn), rfl⟩ (fun u H' hu p => ?_) fun H' p => ?_
  · obtain ⟨b, L', ns, hns, sg, nl⟩ := p
    refine ⟨hw _, nx (base := 97) (hσ _) L' (by decide) (by decide) fun r H4 r0 r1 b4 L4 => ⟨_, b4.at hns (by simpa using nlD.symm), sz_lt (by rw [List.length_map]; omega), Bt.upd (b.trans b4) (.inr hD), L4.upd nlD, ns ++ [r], by rw [upd_same, List.map_append]; rfl, fun m hm => ?_, by rw [List.length_append, nl]; rfl⟩⟩
    rw [List.mem_append, List.mem_singleton] at hm
    rcases hm with hm | rfl
    · exact sg m hm
    · exact ⟨r0, r1⟩
  · obtain ⟨b, L', ns, hns, sg, nl⟩ := p
    exact k Dl ns H' hD b L' hns sg (by omega)
def kind7 : List Str := ["news", "part", "had", "ask", "answer", "news", "news"]
theorem kind7_ok : ∀ k ∈ kind7, k ∈ kinL := by
  intro k h
  simp only [kind7, List.mem_cons, List.not_mem_nil, or_false] at h
  rcases h with rfl | rfl | rfl | rfl | rfl | rfl | rfl <;> decide +kernel
def sp_law_letter (K : PySem.W.Frag) : Sp := fun vs H Q _ => ∃ (l : Addr) (num : Int), vs = [.ref l, .int num] ∧ LeftAt H l ∧ 0 ≤ num ∧ num ≤ 7 ∧ ∀ v (Lt : Letter) H', Bt [l] H H' → LeftAt H' l → Lt.Ok → (Lt.kind = "news" → ∃ N : News, N.Ok ∧ Lt.body = N.body) → Im K H' v Lt.data → Q v H'
/-- _law_letter -/
def t_law_letter (K : PySem.W.Frag) : TS :=
    (tSeq (tAsg (tCall (sp_law_unlike K) [] C8.E0 (tCons (tVar 0) (tCons (tOp rAddI (tC (.int 1)) (tCall (sp_law_next K) [] C8.E0 (tCons (tVar 0) (tCons (tC (.int 6)) tNil)))) (tCons (tC (.int 32)) tNil)))) (gName 2))
    (tSeq (tAsg (tOp (rIxL K) (tLst (tCons (tC (.str "news")) (tCons (tC (.str "part")) (tCons (tC (.str "had")) (tCons (tC (.str "ask")) (tCons (tC (.str "answer")) (tCons (tC (.str "news")) (tCons (tC (.str "news")) tNil)))))))) (tCall (sp_law_next K) [] C8.E0 (tCons (tVar 0) (tCons (tC (.int 7)) tNil)))) (gName 3))
    (tSeq (tAsg (tLc (iRng1 (tCons (tCall (sp_law_next K) [] C8.E0 (tCons (tVar 0) (tCons (tC (.int 5)) tNil))) tNil)) (gName 6) tYes (tCall (sp_law_next K) [] C8.E0 (tCons (tVar 0) (tCons (tC (.int 97)) tNil))) [6]) (gName 4))
    (tSeq (tAsg (tLc (iRng1 (tCons (tCall (sp_law_next K) [] C8.E0 (tCons (tVar 0) (tCons (tOp (rIxL K) (tLst (tCons (tC (.int 7)) (tCons (tC (.int 57)) tNil))) (tCall (sp_law_next K) [] C8.E0 (tCons (tVar 0) (tCons (tC (.int 2)) tNil)))) tNil))) tNil)) (gName 6) tYes (tCall (sp_law_next K) [] C8.E0 (tCons (tVar 0) (tCons (tC (.int 97)) tNil))) [6]) (gName 5))
    (tSeq (tIfS (tTest (tOp rEq (tVar 3) (tC (.str "news")))) (tAsg (tCall (sp_news_body K) [] C8.E0 (tCons (tCall (sp_law_news K) [] C8.E0 (tCons (tVar 0) tNil)) tNil)) (gName 5)) tNext)
    (tRet (tCall (sp_made_letter K) [] C8.E0 (tCons (tOp rAddI (tOp rMulI (tVar 1) (tC (.int 100000))) (tCall (sp_law_next K) [] C8.E0 (tCons (tVar 0) (tCons (tC (.int 99999)) tNil)))) (tCons (tVar 2) (tCons (tVar 3) (tCons (tVar 4) (tCons (tVar 5) tNil))))))))))))
theorem pure_law_letter (T : Wd K mg) (vs : List V) (H : Hp) (Q : VK) (E : XK) (h : sp_law_letter K vs H Q E) : t_law_letter K { nx := fun _ H' => Q .non H', rt := Q } (start ["left", "number", "way", "kind", "about", "body", "k"] vs) H := by
  obtain ⟨l, num, rfl, L, u0, u1, k⟩ := h
  refine ⟨_, rfl, nx (base := 6) rfl L (by decide) (by decide) fun r H1 r0 r1 b1 L1 => ⟨1, r, rfl, rfl, l, (1 + r).toNat, 32, by rw [show (((1 + r).toNat : Nat) : Int) = 1 + r by omega]; rfl, L1, by omega, by decide, by decide, fun wl way H2 hwl b2 L2 hw wnd wbd wlen wne => ?_⟩⟩
  have nlw := L1.new hwl
  have hwl0 := L1.back b1 hwl
  have b02 := b1.trans b2
  dsimp only
  refine ⟨sz_of (Nat.le_of_ble_eq_true rfl), fun kp hkp => ?_⟩
  have e3 : Ex H2 (upd H2 kp (.lst (kind7.map V.str))) := Ex.new hkp
  have hk3 : (upd H2 kp (.lst (kind7.map V.str))) kp = some (.lst (kind7.map V.str)) := upd_same
  suffices key : ∀ H3, Ex H2 H3 → H3 kp = some (.lst (kind7.map V.str)) → tCall (sp_law_next K) [] E0 (tCons (tVar 0) (tCons (tC (.int 7)) tNil)) [some (.ref l), some (.int num), some (.ref wl), none, none, none, none] H3 (fun y H4 => rIxL K (.ref kp) y H4 fun v H5 => (tSeq (tAsg (tLc (iRng1 (tCons (tCall (sp_law_next K) [] C8.E0 (tCons (tVar 0) (tCons (tC (.int 5)) tNil))) tNil)) (gName 6) tYes (tCall (sp_law_next K) [] C8.E0 (tCons (tVar 0) (tCons (tC (.int 97)) tNil))) [6]) (gName 4))
    (tSeq (tAsg (tLc (iRng1 (tCons (tCall (sp_law_next K) [] C8.E0 (tCons (tVar 0) (tCons (tOp (rIxL K) (tLst (tCons (tC (.int 7)) (tCons (tC (.int 57)) tNil))) (tCall (sp_law_next K) [] C8.E0 (tCons (tVar 0) (tCons (tC (.int 2)) tNil)))) tNil))) tNil)) (gName 6) tYes (tCall (sp_law_next K) [] C8.E0 (tCons (tVar 0) (tCons (tC (.int 97)) tNil))) [6]) (gName 5))
    (tSeq (tIfS (tTest (tOp rEq (tVar 3) (tC (.str "news")))) (tAsg (tCall (sp_news_body K) [] C8.E0 (tCons (tCall (sp_law_news K) [] C8.E0 (tCons (tVar 0) tNil)) tNil)) (gName 5)) tNext)
    (tRet (tCall (sp_made_letter K) [] C8.E0 (tCons (tOp rAddI (tOp rMulI (tVar 1) (tC (.int 100000))) (tCall (sp_law_next K) [] C8.E0 (tCons (tVar 0) (tCons (tC (.int 99999)) tNil)))) (tCons (tVar 2) (tCons (tVar 3) (tCons (tVar 4) (tCons (tVar 5) tNil)))))))))) { nx := fun _ H' => Q .non H', rt := Q } [some (.ref l), some (.int num), some (.ref wl), some v, none, none, none] H5) from key _ e3 hk3
  intro H3 e3 hk3
  refine nx (base := 7) rfl (L2.ex e3) (by decide) (by decide) fun x H4 x0 x1 b4 L4 => ?_
  have nlk : kp ≠ l := (L2.new hkp).symm
  have hk4 := b4.at hk3 (by simpa using nlk)
  have xl : x.toNat < kind7.length := by show x.toNat < 7; omega
  obtain ⟨kind, hkind⟩ : ∃ kind, kind7[x.toNat]? = some kind := ⟨_, List.getElem?_eq_getElem xl⟩
  have kin := kind7_ok kind (List.mem_of_getElem? hkind)
  refine ⟨kp, _, x, .str kind, rfl, rfl, sq_of hk4, at_nat x0 (by rw [List.getElem?_map, hkind]; rfl), ?_⟩
  have hw4 : H4 wl = some (.lst (way.map V.int)) := b4.at (e3 _ _ hw) (by simpa using nlw.symm)
  have b04 := (b02.trans (Bt.ex (S := [l]) e3)).trans b4
  have wok : Way way := ⟨wne (by omega), by omega, wnd, fun h hh => wbd h hh⟩
  refine nx (base := 5) rfl L4 (by decide) (by decide) fun an H5 a0 a1 b5 L5 => ?_
  suffices key : tLc (iRng1 (tCons (tC (.int an)) tNil)) (gName 6) tYes (tCall (sp_law_next K) [] C8.E0 (tCons (tVar 0) (tCons (tC (.int 97)) tNil))) [6] [some (.ref l), some (.int num), some (.ref wl), some (.str kind), none, none, none] H5 (fun v H6 => (tSeq (tAsg (tLc (iRng1 (tCons (tCall (sp_law_next K) [] C8.E0 (tCons (tVar 0) (tCons (tOp (rIxL K) (tLst (tCons (tC (.int 7)) (tCons (tC (.int 57)) tNil))) (tCall (sp_law_next K) [] C8.E0 (tCons (tVar 0) (tCons (tC (.int 2)) tNil)))) tNil))) tNil)) (gName 6) tYes (tCall (sp_law_next K) [] C8.E0 (tCons (tVar 0) (tCons (tC (.int 97)) tNil))) [6]) (gName 5))
    (tSeq (tIfS (tTest (tOp rEq (tVar 3) (tC (.str "news")))) (tAsg (tCall (sp_news_body K) [] C8.E0 (tCons (tCall (sp_law_news K) [] C8.E0 (tCons (tVar 0) tNil)) tNil)) (gName 5)) tNext)
    (tRet (tCall (sp_made_letter K) [] C8.E0 (tCons (tOp rAddI (tOp rMulI (tVar 1) (tC (.int 100000))) (tCall (sp_law_next K) [] C8.E0 (tCons (tVar 0) (tCons (tC (.int 99999)) tNil)))) (tCons (tVar 2) (tCons (tVar 3) (tCons (tVar 4) (tCons (tVar 5) tNil))))))))) { nx := fun _ H' => Q .non H', rt := Q } [some (.ref l), some (.int num), some (.ref wl), some (.str kind), some v, none, none] H6) from key
  refine lcNext (n := an) (σ := [some (.ref l), some (.int num), some (.ref wl), some (.str kind), none, none, none]) (i := 0) (j := 6) (fun x => rfl) (fun x => rfl) L5 a0 (by omega) fun al about H6 hal b6 L6 hab asg alen => ?_
  have nla := L5.new hal
  have hw6 := (b5.trans b6).at hw4 (by simpa using nlw.symm)
  have b06 := (b04.trans b5).trans b6
  refine ⟨_, rfl, sz_of (Nat.le_of_ble_eq_true rfl), fun mp hmp => ?_⟩
  suffices key : ∀ H7, Ex H6 H7 → H7 mp = some (.lst [.int 7, .int 57]) → tCall (sp_law_next K) [] E0 (tCons (tVar 0) (tCons (tC (.int 2)) tNil)) [some (.ref l), some (.int num), some (.ref wl), some (.str kind), some (.ref al), none, none] H7 (fun y H8 => rIxL K (.ref mp) y H8 fun v H9 => sp_law_next K [V.ref l, v] H9 (fun v H10 => tLc (iRng1 (tCons (tC v) tNil)) (gName 6) tYes (tCall (sp_law_next K) [] C8.E0 (tCons (tVar 0) (tCons (tC (.int 97)) tNil))) [6] [some (.ref l), some (.int num), some (.ref wl), some (.str kind), some (.ref al), none, none] H10 fun v H11 =>
    (tSeq (tIfS (tTest (tOp rEq (tVar 3) (tC (.str "news")))) (tAsg (tCall (sp_news_body K) [] C8.E0 (tCons (tCall (sp_law_news K) [] C8.E0 (tCons (tVar 0) tNil)) tNil)) (gName 5)) tNext)
    (tRet (tCall (sp_made_letter K) [] C8.E0 (tCons (tOp rAddI (tOp rMulI (tVar 1) (tC (.int 100000))) (tCall (sp_law_next K) [] C8.E0 (tCons (tVar 0) (tCons (tC (.int 99999)) tNil)))) (tCons (tVar 2) (tCons (tVar 3) (tCons (tVar 4) (tCons (tVar 5) tNil)))))))) { nx := fun _ H' => Q .non H', rt := Q } [some (.ref l), some (.int num), some (.ref wl), some (.str kind), some (.ref al), some v, none] H11) (E0 : XK)) from key _ (Ex.new hmp) upd_same
  intro H7 e7 hm7
  refine nx (base := 2) rfl (L6.ex e7) (by decide) (by decide) fun y H8 y0 y1 b8 L8 => ?_
  have nlm : mp ≠ l := (L6.new hmp).symm
  have hm8 := b8.at hm7 (by simpa using nlm)
  have hz : ∃ z : Int, ([V.int 7, V.int 57] : List V)[y.toNat]? = some (.int z) ∧ 1 ≤ z ∧ z ≤ 57 := by
    have : y.toNat = 0 ∨ y.toNat = 1 := by omega
    rcases this with e | e <;> rw [e]
    · exact ⟨7, rfl, by decide, by decide⟩
    · exact ⟨57, rfl, by decide, by decide⟩
  obtain ⟨z, hz, z0, z1⟩ := hz
  refine ⟨mp, _, y, .int z, rfl, rfl, sq_of hm8, at_nat y0 hz, ?_⟩
  refine ⟨l, z, rfl, L8, z0, by omega, fun bn H9 n0 n1 b9 L9 => ?_⟩
  refine lcNext (n := bn) (σ := [some (.ref l), some (.int num), some (.ref wl), some (.str kind), some (.ref al), none, none]) (i := 0) (j := 6) (fun x => rfl) (fun x => rfl) L9 n0 (by omega) fun bl body H10 hbl b10 L10 hbd bsg blen => ?_
  have nlb := L9.new hbl
  have b6_10 := (((Bt.ex (S := [l]) e7).trans b8).trans b9).trans b10
  have hw10 := b6_10.at hw6 (by simpa using nlw.symm)
  have ha10 := b6_10.at hab (by simpa using nla.symm)
  have b010 := b06.trans b6_10
  have fin : ∀ (bv : Addr) (bd : List Int) H11, Bt [l] H10 H11 → LeftAt H11 l → Sigs bd → bd.length ≤ 56 → (SqL K H11 bv (bd.map V.int) ∨ SqT K H11 bv (bd.map V.int)) → (∀ H12, Bt [l] H11 H12 → (SqL K H12 bv (bd.map V.int) ∨ SqT K H12 bv (bd.map V.int))) → (kind = "news" → ∃ N : News, N.Ok ∧ bd = N.body) →
      tRet (tCall (sp_made_letter K) [] C8.E0 (tCons (tOp rAddI (tOp rMulI (tVar 1) (tC (.int 100000))) (tCall (sp_law_next K) [] C8.E0 (tCons (tVar 0) (tCons (tC (.int 99999)) tNil)))) (tCons (tVar 2) (tCons (tVar 3) (tCons (tVar 4) (tCons (tVar 5) tNil)))))) { nx := fun _ H' => Q .non H', rt := Q } [some (.ref l), some (.int num), some (.ref wl), some (.str kind), some (.ref al), some (.ref bv), none] H11 := by
    intro bv bd H11 b11 L11 bsg bl hb hbb hN
    refine ⟨_, rfl, num, 100000, rfl, rfl, .inl ⟨by omega, by omega⟩, nx (base := 99999) rfl L11 (by decide) (by decide) fun c H12 c0 c1 b12 L12 => ⟨_, c, rfl, rfl, _, rfl, _, rfl, _, rfl, _, rfl, ?_⟩⟩
    have lok : Letter.Ok ⟨num * 100000 + c, way, kind, about, bd⟩ := ⟨by dsimp only; omega, by dsimp only; omega, wok, kin, by dsimp only; omega, asg, bl, bsg⟩
    refine ⟨⟨num * 100000 + c, way, kind, about, bd⟩, wl, al, bv, rfl, lok, sq_of ((b11.trans b12).at hw10 (by simpa using nlw.symm)), .inl (sq_of ((b11.trans b12).at ha10 (by simpa using nla.symm))), hbb H12 b12, fun v H13 e13 i13 => ?_⟩
    exact k v _ H13 ((b010.trans (b11.trans b12)).trans (Bt.ex e13)) (L12.ex e13) lok hN i13
  refine q_when (b := decide (kind = "news")) (et_is (et_test (ev_op (ev_var rfl) ev_c (rv_eq rfl))) (by simp)) (fun hb H11 e11 => ?_) fun hb H11 e11 => ?_
  · refine ⟨_, rfl, l, rfl, L10.ex e11, fun v N H12 b12 L12 nok inews => ⟨v, N, rfl, inews, nok, fun w H13 e13 i13 => ?_⟩⟩
    obtain ⟨bt, xs, rfl, hbt, ib⟩ := Im.tup_inv i13
    have := ImAll.ints_eq ib
    subst this
    refine fin bt N.body H13 (((Bt.ex e11).trans b12).trans (Bt.ex e13)) (L12.ex e13) (body_sig nok) (body_len nok) (.inr hbt) (fun H14 b14 => .inr ((L12.ex e13).tx b14 _ _ hbt)) fun _ => ⟨N, nok, rfl⟩
  · have hne := of_decide_eq_false hb
    have hb11 := e11 _ _ hbd
    exact fin bl body H11 (Bt.ex e11) (L10.ex e11) bsg (by omega) (.inl (sq_of hb11)) (fun H12 b12 => .inl (sq_of (b12.at hb11 (by simpa using nlb.symm)))) fun h => absurd h hne
section
variable {P : Program} {w : World} {K : PySem.W.Frag} {mg : Str → Option Value} {base : Heap}
theorem sc_law_letter : FnScope ["left", "number", "way", "kind", "about", "body", "k"] ["left", "number"] (defScope s_law_letter) := ⟨rfl, rfl, rfl, by decide +kernel, rfl, by decide +kernel, by decide +kernel⟩
theorem dr_law_letter (T : Wd K mg) (c_law_next : Cal P w K mg base 1 "_law_next" (sp_law_next K) []) (c_law_unlike : Cal P w K mg base 2 "_law_unlike" (sp_law_unlike K) []) (c_law_news : Cal P w K mg base 4 "_law_news" (sp_law_news K) []) (c_news_body : Cal P w K mg base 2 "news_body" (sp_news_body K) []) (c_made_letter : Cal P w K mg base 2 "made_letter" (sp_made_letter K) []) {f : Addr} {cdv : Value} {A : Around} {outer : List Env} {s : Shared} {H : Hp} {E : XK} (hr : Room 4 (A.deeper (envOfC "_law_letter" (defScope s_law_letter) s.heap.objs.size f cdv))) :
    PSs (cxOf CX0 P w K mg base ["left", "number", "way", "kind", "about", "body", "k"] "_law_letter" (defScope s_law_letter) f cdv A outer s H E).nox (defBody s_law_letter) (t_law_letter K) := by
  have nd := sc_law_letter.nd
  exact (pss_cons (ps_set (i := 2) nd rfl (by first | exact Or.inl rfl | exact Or.inr rfl) (pe_c c_law_unlike hr (by decide) rfl (pa_cons (pv 0) (pa_cons (pe_op op_add pe_int (pe_c c_law_next hr (by decide) rfl (pa_cons (pv 0) (pa_cons pe_int pa_nil)))) (pa_cons pe_int pa_nil)))))
    (pss_cons (ps_set (i := 3) nd rfl (by first | exact Or.inl rfl | exact Or.inr rfl) (pe_ix ix_list (pe_lst (pa_cons pe_str (pa_cons pe_str (pa_cons pe_str (pa_cons pe_str (pa_cons pe_str (pa_cons pe_str (pa_cons pe_str pa_nil)))))))) (pe_c c_law_next hr (by decide) rfl (pa_cons (pv 0) (pa_cons pe_int pa_nil))) (fun _ _ => rfl)))
    (pss_cons (ps_setLc (i := 4) (own := [("k", 6)]) (g := (gName 6)) (tt := tYes) rfl nd rfl rfl (sw_true rfl rfl rfl (by decide +kernel)) (pi_range1 (by rfl) (T.free 101) (pa_cons (pe_c c_law_next hr (by decide) rfl (pa_cons (pv 0) (pa_cons pe_int pa_nil))) pa_nil)) (blkOk_by (by kernel_rfl)) (fun _ _ _ _ _ => (pg_name (i := 6) nd rfl (by first | exact Or.inl rfl | exact Or.inr rfl))) (fun _ _ _ _ _ => pts_nil) (fun _ _ _ _ _ => (pe_c c_law_next hr (by decide) rfl (pa_cons (pv 0) (pa_cons pe_int pa_nil)))))
    (pss_cons (ps_setLc (i := 5) (own := [("k", 6)]) (g := (gName 6)) (tt := tYes) rfl nd rfl rfl (sw_true rfl rfl rfl (by decide +kernel)) (pi_range1 (by rfl) (T.free 101) (pa_cons (pe_c c_law_next hr (by decide) rfl (pa_cons (pv 0) (pa_cons (pe_ix ix_list (pe_lst (pa_cons pe_int (pa_cons pe_int pa_nil))) (pe_c c_law_next hr (by decide) rfl (pa_cons (pv 0) (pa_cons pe_int pa_nil))) (fun _ _ => rfl)) pa_nil))) pa_nil)) (blkOk_by (by kernel_rfl)) (fun _ _ _ _ _ => (pg_name (i := 6) nd rfl (by first | exact Or.inl rfl | exact Or.inr rfl))) (fun _ _ _ _ _ => pts_nil) (fun _ _ _ _ _ => (pe_c c_law_next hr (by decide) rfl (pa_cons (pv 0) (pa_cons pe_int pa_nil)))))
    (pss_cons (ps_if (pt_cmpR op_eq (pv 3) pe_str (nomark _)) (pss_one (ps_set (i := 5) nd rfl (by first | exact Or.inl rfl | exact Or.inr rfl) (pe_c c_news_body hr (by decide) rfl (pa_cons (pe_c c_law_news hr (by decide) rfl (pa_cons (pv 0) pa_nil)) pa_nil)))) pss_nil)
    (pss_one (ps_ret (pe_c c_made_letter hr (by decide) rfl (pa_cons (pe_op op_add (pe_op op_mul (pv 1) pe_int) (pe_c c_law_next hr (by decide) rfl (pa_cons (pv 0) (pa_cons pe_int pa_nil)))) (pa_cons (pv 2) (pa_cons (pv 3) (pa_cons (pv 4) (pa_cons (pv 5) pa_nil)))))))))))))
theorem ok_law_letter (T : Wd K mg) (c_law_next : Cal P w K mg base 1 "_law_next" (sp_law_next K) []) (c_law_unlike : Cal P w K mg base 2 "_law_unlike" (sp_law_unlike K) []) (c_law_news : Cal P w K mg base 4 "_law_news" (sp_law_news K) []) (c_news_body : Cal P w K mg base 2 "news_body" (sp_news_body K) []) (c_made_letter : Cal P w K mg base 2 "made_letter" (sp_made_letter K) []) {f : Addr} {fd : FuncData} (F : FunD K ds_law_letter.name ds_law_letter.qual ds_law_letter.params ds_law_letter.body ds_law_letter.scope [] [] f fd) : FnOk P w K mg base CX0 5 f fd ["left", "number"] (sp_law_letter K) := by
  refine FunD.ok F sc_law_letter (fun vs H Q E h => ?_) (fun cdv A outer s H vs Q E hr h => ⟨t_law_letter K, PSs.nox (dr_law_letter T c_law_next c_law_unlike c_law_news c_news_body c_made_letter hr), pure_law_letter T vs H Q E h⟩)
  obtain ⟨_, _, e, _⟩ := h
  rw [e]
  all_goals rfl
end
end

end K85
end
section
set_option maxHeartbeats 400000
namespace K85
open PySem PySem.Spec PyProof.Rows
open L2 hiding CX0 E0 pass0
open C8 Evl
/-! ### tactics -/
local macro_rules | `(tactic| walk_at "side") => `(tactic| first | omega | assumption | rfl | decide)
local macro_rules | `(tactic| walk_at "at") => `(tactic| first | (refine at_int ?_ ?_ <;> first | omega | (simp; omega)) | assumption)
local macro_rules | `(tactic| walk_at "rv") => `(tactic| first
  | with_reducible exact rv_I0
  | ((with_reducible apply rv_eq); rfl)
  | ((with_reducible apply rv_ne); rfl)
  | ((with_reducible apply rv_mod); first | omega | decide)
  | ((with_reducible apply rv_mul); omega)
  | ((with_reducible apply rv_div); omega)
  | ((with_reducible apply rv_ixL); · assumption
     · walk_at "at")
  | ((with_reducible apply rv_ixT); · assumption
     · walk_at "at"))
local macro_rules | `(tactic| walk_at "ev") => `(tactic| first
  | ((with_reducible apply ev_var); rfl)
  | with_reducible exact ev_c
  | ((with_reducible apply ev_isN); walk_at "ev")
  | ((with_reducible apply ev_notN); walk_at "ev")
  | ((with_reducible apply ev_op); · walk_at "ev"
     · walk_at "ev"
     · walk_at "rv")
  | ((with_reducible apply ev_un); · walk_at "ev"
     · with_reducible exact ru_neg)
  | ((with_reducible apply ev_chain); · walk_at "ev"
     · walk_at "ev"
     · walk_at "rv"
     · intro _; walk_at "ev"
     · intro _; walk_at "rv")
  | ((with_reducible apply ev_len); · walk_at "ev"
     · assumption)
  | ((with_reducible apply ev_lenT); · walk_at "ev"
     · assumption)
  | ((with_reducible apply ev_andV); · walk_at "ev"
     · intro _; walk_at "ev")
  | with_reducible assumption)
local macro_rules | `(tactic| walk_at "evt") => `(tactic| first
  | ((with_reducible apply et_or); · walk_at "evt"
     · intro _; walk_at "evt")
  | ((with_reducible apply et_and); · walk_at "evt"
     · intro _; walk_at "evt")
  | ((with_reducible apply et_not); walk_at "evt")
  | ((with_reducible apply et_test); walk_at "ev")
  | ((with_reducible apply et_B); walk_at "ev")
  | with_reducible assumption)
local macro_rules | `(tactic| walk_at "bool") => `(tactic| first | rfl | (simp; done) | (simp; omega) | (simp; intros; omega) | grind)
/-! ### the plain law of mending: rests of 97 -/
abbrev F97 : Type := Fin 97
def ph (a : Int) : F97 := ⟨(a % 97).toNat, by omega⟩
theorem ph_val (a : Int) : ((ph a).val : Int) = a % 97 := by
  show (((a % 97).toNat : Nat) : Int) = _
  omega
theorem f_ext {x y : F97} (h : (x.val : Int) = (y.val : Int)) : x = y := Fin.ext (by omega)
theorem ph_add (a b : Int) : ph (a + b) = ph a + ph b := f_ext (by
  rw [Fin.val_add, ph_val, Int.natCast_emod, Int.natCast_add, ph_val, ph_val]
  omega)
theorem ph_mul (a b : Int) : ph (a * b) = ph a * ph b := f_ext (by
  rw [Fin.val_mul, ph_val, Int.natCast_emod, Int.natCast_mul, ph_val, ph_val]
  exact Int.mul_emod a b 97)
theorem ph_mod (a : Int) : ph (a % 97) = ph a := f_ext (by rw [ph_val, ph_val]; omega)
theorem ph_zero : ph 0 = 0 := rfl
theorem ph_sub (a b : Int) : ph (a - b) = ph a - ph b := by
  have h := ph_add (a - b) b
  rw [Int.sub_add_cancel] at h
  rw [h]
  grind
theorem ph_eq0 {a : Int} (h : a % 97 = 0) : ph a = 0 := by
  rw [← ph_mod, h]
  rfl
theorem ph_0 {a : Int} (h : ph a = 0) : a % 97 = 0 := by
  rw [← ph_val a, h]
  rfl
theorem ph_inj {a b : Int} (ha : 0 ≤ a ∧ a < 97) (hb : 0 ≤ b ∧ b < 97) (h : ph a = ph b) : a = b := by
  have e : ((ph a).val : Int) = (ph b).val := by rw [h]
  rw [ph_val, ph_val] at e
  omega
theorem ph_inv {a : Int} (h0 : 0 < a) (h1 : a < 97) : ph a * ph (inv97 a) = 1 := by
  rw [← ph_mul, ← ph_mod, (inv_sig h0 h1).2.2]
  rfl
theorem f_mul0 : ∀ a b : F97, a * b = 0 → a = 0 ∨ b = 0 := by decide +kernel
theorem f_cancel {a b c : F97} (hc : c ≠ 0) (h : a * c = b * c) : a = b := by
  have e : (a - b) * c = 0 := by grind
  rcases f_mul0 _ _ e with e | e
  · grind
  · exact absurd e hc
theorem f_pow (x : F97) (j : Nat) : x ^ (j + 1) = x ^ j * x := by grind
def Xp (i : Nat) : F97 := ph (powL.getD i 0)
theorem Xp_ne : ∀ i : Nat, i < 24 → Xp i ≠ 0 := by decide +kernel
theorem Xp_inj : ∀ i : Nat, i < 24 → ∀ j : Nat, j < 24 → Xp i = Xp j → i = j := by decide +kernel
theorem Xp_pow : ∀ i : Nat, i < 24 → ∀ k : Nat, k < 6 → ph (powL.getD (i * (k + 1) % 96) 0) = Xp i ^ (k + 1) := by decide +kernel
/-! sums -/
def LS : List Nat → (Nat → F97) → F97
  | [], _ => 0
  | i :: l, f => f i + LS l f
theorem LS_add (f g : Nat → F97) : ∀ l, LS l (fun i => f i + g i) = LS l f + LS l g
  | [] => rfl
  | i :: l => by
    show f i + g i + LS l _ = (f i + LS l f) + (g i + LS l g)
    rw [LS_add f g l]
    grind
theorem LS_mul (f : Nat → F97) (c : F97) : ∀ l, LS l (fun i => f i * c) = LS l f * c
  | [] => by
    show (0 : F97) = 0 * c
    grind
  | i :: l => by
    show f i * c + LS l _ = (f i + LS l f) * c
    rw [LS_mul f c l]
    grind
theorem LS_zero : ∀ l, LS l (fun _ => 0) = 0
  | [] => rfl
  | i :: l => by
    show 0 + LS l _ = 0
    rw [LS_zero l]
    rfl
theorem LS_congr {f g : Nat → F97} : ∀ {l}, (∀ i ∈ l, f i = g i) → LS l f = LS l g
  | [], _ => rfl
  | i :: l, h => by
    show f i + LS l f = g i + LS l g
    rw [h i (by simp), LS_congr fun j hj => h j (by simp [hj])]
theorem LS_app (f : Nat → F97) : ∀ l m, LS (l ++ m) f = LS l f + LS m f
  | [], m => by
    show LS m f = 0 + LS m f
    grind
  | i :: l, m => by
    show f i + LS (l ++ m) f = (f i + LS l f) + LS m f
    rw [LS_app f l m]
    grind
theorem LS_one {p : Nat} (f : Nat → F97) : ∀ {l : List Nat}, l.Nodup → p ∈ l → LS l (fun i => if i = p then f i else 0) = f p
  | [], _, h => by cases h
  | i :: l, nd, h => by
    rw [List.nodup_cons] at nd
    show (if i = p then f i else 0) + LS l _ = f p
    by_cases e : i = p
    · subst e
      rw [if_pos rfl, LS_congr (g := fun _ => 0) fun j hj => if_neg fun (z : j = i) => nd.1 (z ▸ hj), LS_zero]
      grind
    · rw [if_neg e, LS_one f nd.2 ((List.mem_cons.mp h).resolve_left fun z => e z.symm)]
      grind
theorem ph_sum (f : Nat → Int) : ∀ l : List Nat, ph ((l.map f).sum) = LS l (fun i => ph (f i))
  | [] => rfl
  | i :: l => by
    rw [List.map_cons, List.sum_cons, ph_add, ph_sum f l]
    rfl
/-! what six sums tell -/
def Y (v : Nat → F97) (j : Nat) : F97 := LS (List.range 24) fun i => v i * Xp i ^ j
theorem sums_at {c : List Int} (h : c.length = 24) {k : Nat} (hk : k < 6) : ph ((sumsM c).getD k 0) = Y (fun i => ph (c.getD i 0)) (k + 1) := by
  have e : (sumsM c).getD k 0 = wsum c (1 + (k : Int)) := by
    unfold sumsM
    rw [List.getD_eq_getElem?_getD, List.getElem?_map, List.getElem?_range hk]
    rfl
  rw [e]
  unfold wsum Y
  rw [ph_mod, h, ph_sum]
  refine LS_congr fun i hi => ?_
  have hi := List.mem_range.mp hi
  rw [ph_mul, ← Xp_pow i hi k hk, show (((i : Int) * (1 + (k : Int)) % 96).toNat) = i * (k + 1) % 96 by
    have : (i : Int) * (1 + (k : Int)) = ((i * (k + 1) : Nat) : Int) := by
      rw [Int.natCast_mul, Int.natCast_add]
      grind
    rw [this]
    omega]
  rfl
theorem chk_tab : ∀ i : Nat, i < 18 → ∀ k : Nat, k < 6 → Xp i ^ (k + 1) + LS (List.range 6) (fun t => ph ((chkL.getD i []).getD t 0) * Xp (18 + t) ^ (k + 1)) = 0 := by decide +kernel
theorem LS_swap (f : Nat → Nat → F97) (m : List Nat) : ∀ l, LS l (fun i => LS m (f i)) = LS m (fun t => LS l fun i => f i t)
  | [] => by
    show 0 = LS m fun _ => 0
    rw [LS_zero]
  | i :: l => by
    show LS m (f i) + LS l _ = LS m fun t => f i t + LS l fun i => f i t
    rw [LS_swap f m l, LS_add (f i) (fun t => LS l fun i => f i t) m]
theorem seal_len {ns : List Int} (h : ns.length = 18) : (sealM ns).length = 24 := by
  unfold sealM
  rw [List.length_append, List.length_map, List.length_range, h]
theorem seal_Y {ns : List Int} (h : ns.length = 18) {k : Nat} (hk : k < 6) : Y (fun i => ph ((sealM ns).getD i 0)) (k + 1) = 0 := by
  have lo : ∀ i, i < 18 → (sealM ns).getD i 0 = ns.getD i 0 := fun i hi => by
    unfold sealM
    rw [List.getD_eq_getElem?_getD, List.getElem?_append_left (by omega), List.getD_eq_getElem?_getD]
  have hi : ∀ t, t < 6 → ph ((sealM ns).getD (18 + t) 0) = LS (List.range 18) fun i => ph (ns.getD i 0) * ph ((chkL.getD i []).getD t 0) := fun t ht => by
    unfold sealM
    rw [List.getD_eq_getElem?_getD, List.getElem?_append_right (by omega), show 18 + t - ns.length = t by omega, List.getElem?_map, List.getElem?_range ht]
    show ph (_ % 97) = _
    rw [ph_mod, ph_sum]
    refine LS_congr fun i _ => ?_
    rw [ph_mul]
    rfl
  unfold Y
  rw [show List.range 24 = List.range 18 ++ (List.range 6).map (18 + ·) by decide, LS_app]
  have e2 : ∀ (f : Nat → F97) (l : List Nat), LS (l.map (18 + ·)) f = LS l fun t => f (18 + t) := fun f l => by
    induction l with
    | nil => rfl
    | cons i l ih =>
      show f (18 + i) + LS (l.map (18 + ·)) f = _
      rw [ih]
      rfl
  rw [e2, LS_congr (l := List.range 6) (g := fun t => LS (List.range 18) fun i => (ph (ns.getD i 0)) * (ph ((chkL.getD i []).getD t 0) * Xp (18 + t) ^ (k + 1))) fun t ht => by
    show ph ((sealM ns).getD (18 + t) 0) * Xp (18 + t) ^ (k + 1) = _
    rw [hi t (List.mem_range.mp ht), ← LS_mul]
    refine LS_congr fun i _ => ?_
    grind, ← LS_swap, ← LS_add, LS_congr (g := fun _ => 0) fun i hi => ?_, LS_zero]
  have hi := List.mem_range.mp hi
  have e3 : ∀ (c : F97) (f : Nat → F97) l, LS l (fun t => c * f t) = c * LS l f := fun c f l => by
    have : (fun t => c * f t) = fun t => f t * c := by
      funext t
      grind
    rw [this, LS_mul]
    grind
  show ph ((sealM ns).getD i 0) * Xp i ^ (k + 1) + _ = 0
  rw [lo i hi, e3]
  have := chk_tab i hi k hk
  grind
/-! turns -/
def err : List (Int × Int) → Nat → F97
  | [], _ => 0
  | t :: ts, i => (if i = t.1.toNat then ph t.2 else 0) + err ts i
def G (j : Nat) : List (Int × Int) → F97
  | [] => 0
  | t :: ts => ph t.2 * Xp t.1.toNat ^ j + G j ts
theorem G_err (j : Nat) {l : List Nat} (nd : l.Nodup) : ∀ ts : List (Int × Int), (∀ t ∈ ts, t.1.toNat ∈ l) → LS l (fun i => err ts i * Xp i ^ j) = G j ts
  | [], _ => by
    show LS l (fun i => 0 * Xp i ^ j) = 0
    rw [LS_congr (g := fun _ => 0) fun i _ => by grind, LS_zero]
  | t :: ts, h => by
    have e : ∀ i, err (t :: ts) i * Xp i ^ j = (if i = t.1.toNat then ph t.2 * Xp i ^ j else 0) + err ts i * Xp i ^ j := fun i => by
      show ((if i = t.1.toNat then ph t.2 else 0) + err ts i) * _ = _
      split <;> grind
    rw [LS_congr fun i _ => e i, LS_add, G_err j nd ts fun u hu => h u (by simp [hu]), LS_one (fun i => ph t.2 * Xp i ^ j) nd (h t (by simp))]
    rfl
theorem turned_at : ∀ (ts : List (Int × Int)) (c : List Int), (∀ t ∈ ts, t.1.toNat < c.length) → ∀ i, i < c.length → ph ((turnedM c ts).getD i 0) = ph (c.getD i 0) + err ts i
  | [], c, _, i, _ => by
    show ph (c.getD i 0) = _ + 0
    grind
  | t :: ts, c, h, i, hi => by
    have q := turned_at ts (c.set t.1.toNat ((c.getD t.1.toNat 0 + t.2) % 97)) (fun u hu => by rw [List.length_set]; exact h u (by simp [hu])) i (by rw [List.length_set]; exact hi)
    have e : turnedM c (t :: ts) = turnedM (c.set t.1.toNat ((c.getD t.1.toNat 0 + t.2) % 97)) ts := rfl
    rw [e, q]
    show _ = _ + ((if i = t.1.toNat then ph t.2 else 0) + err ts i)
    rw [List.getD_eq_getElem?_getD, List.getElem?_set]
    by_cases z : i = t.1.toNat
    · subst z
      rw [if_pos rfl, if_pos hi, if_pos rfl, Option.getD_some, ph_mod, ph_add]
      grind
    · rw [if_neg (fun y => z y.symm), if_neg z, List.getD_eq_getElem?_getD]
      grind
theorem turned_sums {ns : List Int} (h : ns.length = 18) {ts : List (Int × Int)} (ht : ∀ t ∈ ts, t.1.toNat < 24) {k : Nat} (hk : k < 6) : ph ((sumsM (turnedM (sealM ns) ts)).getD k 0) = G (k + 1) ts := by
  have sl := seal_len h
  rw [sums_at (by rw [turnedM_len, sl]) hk]
  unfold Y
  rw [LS_congr (g := fun i => ph ((sealM ns).getD i 0) * Xp i ^ (k + 1) + err ts i * Xp i ^ (k + 1)) fun i hi => by
    show ph ((turnedM (sealM ns) ts).getD i 0) * Xp i ^ (k + 1) = _
    rw [turned_at ts _ (fun t h => by rw [sl]; exact ht t h) i (by rw [sl]; exact List.mem_range.mp hi)]
    grind, LS_add]
  have := seal_Y h hk
  unfold Y at this
  rw [this, G_err (k + 1) List.nodup_range ts fun t h => List.mem_range.mpr (ht t h)]
  grind
/-! at most six places that make no trouble are none -/
theorem vander : ∀ (l : List Nat) (w : Nat → F97), l.Nodup → (∀ i ∈ l, i < 24) → (∀ j, 1 ≤ j → j ≤ l.length → LS l (fun i => w i * Xp i ^ j) = 0) → ∀ i ∈ l, w i = 0
  | [], _, _, _, _, i, hi => by cases hi
  | a :: l, w, nd, lt, h, i, hi => by
    rw [List.nodup_cons] at nd
    have hl : ∀ j, 1 ≤ j → j ≤ l.length → LS l (fun i => (w i * (Xp i - Xp a)) * Xp i ^ j) = 0 := fun j h1 h2 => by
      have q1 : w a * Xp a ^ j + LS l (fun i => w i * Xp i ^ j) = 0 := h j h1 (by rw [List.length_cons]; omega)
      have q2 : w a * Xp a ^ (j + 1) + LS l (fun i => w i * Xp i ^ (j + 1)) = 0 := h (j + 1) (by omega) (by rw [List.length_cons]; omega)
      have e : LS l (fun i => w i * Xp i ^ (j + 1)) = LS l (fun i => (w i * (Xp i - Xp a)) * Xp i ^ j) + LS l (fun i => w i * Xp i ^ j) * Xp a := by
        rw [← LS_mul, ← LS_add]
        refine LS_congr fun i _ => ?_
        rw [f_pow]
        grind
      rw [e, f_pow] at q2
      grind
    have ih := vander l (fun i => w i * (Xp i - Xp a)) nd.2 (fun i hi => lt i (by simp [hi])) hl
    have hz : ∀ i ∈ l, w i = 0 := fun i hi => by
      rcases f_mul0 _ _ (ih i hi) with e | e
      · exact e
      · have : i = a := Xp_inj i (lt i (by simp [hi])) a (lt a (by simp)) (by grind)
        exact absurd (this ▸ hi) nd.1
    rcases List.mem_cons.mp hi with rfl | hi
    · have q : w i * Xp i ^ 1 + LS l (fun i => w i * Xp i ^ 1) = 0 := h 1 (by omega) (by rw [List.length_cons]; omega)
      rw [LS_congr (g := fun _ => 0) fun j hj => by rw [hz j hj]; grind, LS_zero] at q
      have := f_mul0 (w i) (Xp i) (by grind)
      exact this.resolve_right (Xp_ne i (lt i (by simp)))
    · exact hz i hi

end K85
end
section
set_option maxHeartbeats 400000
namespace K85
open PySem PySem.Spec PyProof.Rows
open L2 hiding CX0 E0 pass0
open C8 Evl
/-! ### tactics -/
local macro_rules | `(tactic| walk_at "side") => `(tactic| first | omega | assumption | rfl | decide)
local macro_rules | `(tactic| walk_at "at") => `(tactic| first | (refine at_int ?_ ?_ <;> first | omega | (simp; omega)) | assumption)
local macro_rules | `(tactic| walk_at "rv") => `(tactic| first
  | with_reducible exact rv_I0
  | ((with_reducible apply rv_eq); rfl)
  | ((with_reducible apply rv_ne); rfl)
  | ((with_reducible apply rv_mod); first | omega | decide)
  | ((with_reducible apply rv_mul); omega)
  | ((with_reducible apply rv_div); omega)
  | ((with_reducible apply rv_ixL); · assumption
     · walk_at "at")
  | ((with_reducible apply rv_ixT); · assumption
     · walk_at "at"))
local macro_rules | `(tactic| walk_at "ev") => `(tactic| first
  | ((with_reducible apply ev_var); rfl)
  | with_reducible exact ev_c
  | ((with_reducible apply ev_isN); walk_at "ev")
  | ((with_reducible apply ev_notN); walk_at "ev")
  | ((with_reducible apply ev_op); · walk_at "ev"
     · walk_at "ev"
     · walk_at "rv")
  | ((with_reducible apply ev_un); · walk_at "ev"
     · with_reducible exact ru_neg)
  | ((with_reducible apply ev_chain); · walk_at "ev"
     · walk_at "ev"
     · walk_at "rv"
     · intro _; walk_at "ev"
     · intro _; walk_at "rv")
  | ((with_reducible apply ev_len); · walk_at "ev"
     · assumption)
  | ((with_reducible apply ev_lenT); · walk_at "ev"
     · assumption)
  | ((with_reducible apply ev_andV); · walk_at "ev"
     · intro _; walk_at "ev")
  | with_reducible assumption)
local macro_rules | `(tactic| walk_at "evt") => `(tactic| first
  | ((with_reducible apply et_or); · walk_at "evt"
     · intro _; walk_at "evt")
  | ((with_reducible apply et_and); · walk_at "evt"
     · intro _; walk_at "evt")
  | ((with_reducible apply et_not); walk_at "evt")
  | ((with_reducible apply et_test); walk_at "ev")
  | ((with_reducible apply et_B); walk_at "ev")
  | with_reducible assumption)
local macro_rules | `(tactic| walk_at "bool") => `(tactic| first | rfl | (simp; done) | (simp; omega) | (simp; intros; omega) | grind)
/-! what is found is right -/
structure Sound (f : List Int) (ts : List (Int × Int)) : Prop where
  lt : ∀ t ∈ ts, t.1.toNat < 24
  nd : (ts.map fun t => t.1.toNat).Nodup
  len : ts.length ≤ 2
  eq : ∀ k, k < 6 → ph (f.getD k 0) = G (k + 1) ts
theorem place_at {x : Int} {p : Nat} (h : placeM x = some p) : powL.getD p 0 = x := by
  have := List.find?_some h
  exact eq_of_beq this
theorem nz_ph {f : List Int} (hl : f.length = 6) (hs : Sigs f) (h0 : ¬ 0 ∈ f) {k : Nat} (hk : k < 6) : 0 < f.getD k 0 ∧ f.getD k 0 < 97 := by
  have g := hs.getD k
  have : f.getD k 0 ≠ 0 := fun z => h0 (by
    rw [List.getD_eq_getElem?_getD, List.getElem?_eq_getElem (by omega)] at z
    rw [← z]
    exact List.getElem_mem _)
  omega
theorem ph_nz {a : Int} (h0 : 0 < a) (h1 : a < 97) : ph a ≠ 0 := fun z => by
  have := ph_0 z
  omega
theorem mod_pos {a : Int} (h : a % 97 ≠ 0) : 0 < a % 97 ∧ a % 97 < 97 := by omega
theorem one_sound {f : List Int} {ts : List (Int × Int)} (hl : f.length = 6) (hs : Sigs f) (h : oneM f = some ts) : Sound f ts := by
  unfold oneM at h
  split at h
  · cases h
  · rename_i h0
    dsimp only at h
    split at h
    · rename_i hall
      split at h
      · cases h
      · rename_i p hp
        have g0 := nz_ph hl hs h0 (k := 0) (by omega)
        have g1 := nz_ph hl hs h0 (k := 1) (by omega)
        have iv := inv_sig g0.1 g0.2
        have xz : f.getD 1 0 * inv97 (f.getD 0 0) % 97 ≠ 0 := nz_mul (by omega) (by omega)
        have xp := mod_pos xz
        have ep := place_at hp
        generalize f.getD 1 0 * inv97 (f.getD 0 0) % 97 = x at *
        cases h
        have hx := ph_inv xp.1 xp.2
        have eX : Xp p = ph x := by unfold Xp; rw [ep]
        have step : ∀ k, k < 5 → ph (f.getD (k + 1) 0) = ph (f.getD k 0) * ph x := fun k hk => by
          have := eq_of_beq (List.all_eq_true.mp hall k (List.mem_range.mpr hk))
          rw [this, ph_mod, ph_mul]
        refine ⟨fun t ht => ?_, by simp, by simp, fun k hk => ?_⟩
        · rw [List.mem_singleton.mp ht]
          exact place_lt hp
        · have base : ph (f.getD 0 0) = ph (f.getD 0 0 * inv97 x % 97) * ph x := by
            rw [ph_mod, ph_mul]
            grind
          have : ∀ k, k < 6 → ph (f.getD k 0) = ph (f.getD 0 0 * inv97 x % 97) * ph x ^ (k + 1) := fun k => by
            induction k with
            | zero =>
              intro _
              rw [base]
              grind
            | succ k ih =>
              intro hk
              rw [step k (by omega), ih (by omega), f_pow _ (k + 1)]
              grind
          rw [this k hk]
          show _ = ph (f.getD 0 0 * inv97 x % 97) * Xp ((p : Int).toNat) ^ (k + 1) + 0
          rw [Int.toNat_natCast, eX]
          grind
    · cases h
theorem rec2 {a b s p u v : F97} (h1 : u * u - s * u + p = 0) (h2 : v * v - s * v + p = 0) (k : Nat) : s * (a * u ^ (k + 2) + b * v ^ (k + 2)) - p * (a * u ^ (k + 1) + b * v ^ (k + 1)) = a * u ^ (k + 3) + b * v ^ (k + 3) := by
  have e1 : u ^ (k + 3) = u ^ (k + 1) * u * u := by rw [f_pow u (k + 2), f_pow u (k + 1)]
  have e2 : v ^ (k + 3) = v ^ (k + 1) * v * v := by rw [f_pow v (k + 2), f_pow v (k + 1)]
  rw [e1, e2, f_pow u (k + 1), f_pow v (k + 1)]
  generalize u ^ (k + 1) = U
  generalize v ^ (k + 1) = W
  clear e1 e2
  grobner
theorem two_sound {f : List Int} {ts : List (Int × Int)} (hl : f.length = 6) (hs : Sigs f) (h : twoM f = some ts) : Sound f ts := by
  unfold twoM at h
  split at h
  · cases h
  · have lt := @places_lt (sM f) (pM f)
    have nd := places_nd (sM f) (pM f)
    have rt : ∀ i ∈ placesM (sM f) (pM f), rootM (sM f) (pM f) i = true := fun i hi => (List.mem_filter.mp hi).2
    generalize sM f = s at *
    generalize pM f = p at *
    split at h
    · rename_i i j r hq
      split at h
      · rename_i hg
        cases h
        rw [hq] at lt nd rt
        have h1 : i < 24 := lt (by simp)
        have h2 : j < 24 := lt (by simp)
        have hij : i ≠ j := fun z => by
          subst z
          simp at nd
        have r1 := rt i (by simp)
        have r2 := rt j (by simp)
        have root : ∀ i, rootM s p i = true → Xp i * Xp i - ph s * Xp i + ph p = 0 := fun i hi => by
          have := ph_eq0 (eq_of_beq hi)
          rw [ph_add, ph_sub, ph_mul, ph_mul] at this
          exact this
        have r1 := root i r1
        have r2 := root j r2
        have zi := pow_nz i h1
        have zj := pow_nz j h2
        have wi : powL.getD j 0 < 97 := (getD_mem_or (P := fun n => 0 ≤ n ∧ n < 97) (by decide) (by decide) j).2
        have iv1 := ph_inv zj wi
        have mp := mod_pos (pow_ne i h1 j h2 hij)
        have iv2 := ph_inv mp.1 mp.2
        rw [ph_mod, ph_mul, ph_sub] at iv2
        have ef : ph (firstM f (powL.getD i 0) (powL.getD j 0)) = (ph (f.getD 1 0) - ph (f.getD 0 0) * Xp j) * ph (inv97 (powL.getD i 0 * (powL.getD i 0 - powL.getD j 0) % 97)) := by
          unfold firstM
          rw [ph_mod, ph_mul, ph_sub, ph_mul]
          rfl
        have es : ph (secondM f (powL.getD i 0) (powL.getD j 0)) = (ph (f.getD 0 0) - ph (firstM f (powL.getD i 0) (powL.getD j 0)) * Xp i) * ph (inv97 (powL.getD j 0)) := by
          unfold secondM
          rw [ph_mod, ph_mul, ph_sub, ph_mul]
          rfl
        change Xp i * (Xp i - Xp j) * _ = 1 at iv2
        change Xp j * _ = 1 at iv1
        generalize ph (inv97 (powL.getD i 0 * (powL.getD i 0 - powL.getD j 0) % 97)) = I2 at *
        generalize ph (inv97 (powL.getD j 0)) = I1 at *
        generalize firstM f (powL.getD i 0) (powL.getD j 0) = A at *
        generalize secondM f (powL.getD i 0) (powL.getD j 0) = B at *
        have b0 : ph (f.getD 0 0) = ph A * Xp i ^ 1 + ph B * Xp j ^ 1 := by
          rw [es]
          generalize Xp i = u at *
          generalize Xp j = v at *
          clear root rt hg hij zi zj wi lt nd
          grobner
        have b1 : ph (f.getD 1 0) = ph A * Xp i ^ 2 + ph B * Xp j ^ 2 := by
          rw [es]
          generalize Xp i = u at *
          generalize Xp j = v at *
          clear root rt hg hij zi zj wi lt nd
          grobner
        have step : ∀ k, k < 4 → ph (f.getD (k + 2) 0) = ph s * ph (f.getD (k + 1) 0) - ph p * ph (f.getD k 0) := fun k hk => by
          have := ph_eq0 (eq_of_beq (List.all_eq_true.mp hg k (List.mem_range.mpr hk)))
          rw [ph_sub, ph_sub, ph_mul, ph_mul] at this
          grind
        have all : ∀ k, k < 5 → ph (f.getD k 0) = ph A * Xp i ^ (k + 1) + ph B * Xp j ^ (k + 1) ∧ ph (f.getD (k + 1) 0) = ph A * Xp i ^ (k + 2) + ph B * Xp j ^ (k + 2) := fun k => by
          induction k with
          | zero => exact fun _ => ⟨b0, b1⟩
          | succ k ih =>
            intro hk
            obtain ⟨q1, q2⟩ := ih (by omega)
            refine ⟨q2, ?_⟩
            rw [step k (by omega), q1, q2]
            exact rec2 r1 r2 k
        refine ⟨fun t ht => ?_, ?_, by simp, fun k hk => ?_⟩
        · rcases List.mem_cons.mp ht with rfl | ht
          · exact h1
          · rw [List.mem_singleton.mp ht]
            exact h2
        · simp
          exact hij
        · show _ = ph A * Xp i ^ (k + 1) + (ph B * Xp j ^ (k + 1) + 0)
          rcases Nat.lt_or_ge k 5 with h5 | h5
          · rw [(all k h5).1]
            grind
          · have : k = 5 := by omega
            subst this
            rw [(all 4 (by omega)).2]
            grind
      · cases h
    · cases h
theorem turns_sound {f : List Int} {ts : List (Int × Int)} (hl : f.length = 6) (hs : Sigs f) (h : turnsM f = some ts) : Sound f ts := by
  unfold turnsM at h
  split at h
  · rename_i hz
    cases h
    refine ⟨by simp, by simp, by simp, fun k hk => ?_⟩
    rw [hz]
    show ph ((List.replicate 6 (0 : Int)).getD k 0) = 0
    have : (List.replicate 6 (0 : Int)).getD k 0 = 0 := by
      rw [List.getD_eq_getElem?_getD, List.getElem?_replicate, if_pos hk]
      rfl
    rw [this]
    rfl
  · split at h
    · rename_i t ht
      cases h
      exact one_sound hl hs ht
    · exact two_sound hl hs h
/-! at most two turns are found -/
theorem all6 {f g : List Int} (hf : f.length = 6) (hg : g.length = 6) (h : ∀ k, k < 6 → f.getD k 0 = g.getD k 0) : f = g := by
  refine List.ext_getElem (by omega) fun i h1 h2 => ?_
  have := h i (by omega)
  rw [List.getD_eq_getElem?_getD, List.getD_eq_getElem?_getD, List.getElem?_eq_getElem h1, List.getElem?_eq_getElem h2] at this
  exact this
theorem found0 {f : List Int} (hl : f.length = 6) (hs : Sigs f) (h : ∀ k, k < 6 → ph (f.getD k 0) = G (k + 1) []) : turnsM f ≠ none := by
  have : f = List.replicate 6 0 := all6 hl (by simp) fun k hk => by
    have e := ph_0 (h k hk)
    have := hs.getD k
    rw [List.getD_eq_getElem?_getD (l := List.replicate 6 (0 : Int)), List.getElem?_replicate, if_pos hk]
    show f.getD k 0 = 0
    omega
  unfold turnsM
  rw [if_pos this]
  simp
theorem find_is {p : Nat → Bool} {n i : Nat} (hi : i < n) (hp : p i = true) (hu : ∀ j, j < n → p j = true → j = i) : (List.range n).find? p = some i := by
  rw [List.find?_range_eq_some]
  refine ⟨hp, List.mem_range.mpr hi, fun j hj => ?_⟩
  cases z : p j with
  | false => rfl
  | true => exact absurd (hu j (by omega) z) (by omega)
theorem Xp_sig (i : Nat) : 0 ≤ powL.getD i 0 ∧ powL.getD i 0 < 97 := getD_mem_or (P := fun n => 0 ≤ n ∧ n < 97) (by decide) (by decide) i
theorem placeM_is {x : Int} {p : Nat} (h0 : 0 ≤ x ∧ x < 97) (hp : p < 24) (h : ph x = Xp p) : placeM x = some p := by
  have e : x = powL.getD p 0 := ph_inj h0 (Xp_sig p) h
  unfold placeM
  refine find_is hp (by rw [e]; exact beq_self_eq_true _) fun j hj hq => ?_
  have := eq_of_beq hq
  exact Xp_inj j hj p hp (by unfold Xp; rw [this, e])
theorem mul_nz {a b : F97} (ha : a ≠ 0) (hb : b ≠ 0) : a * b ≠ 0 := fun z => (f_mul0 a b z).elim ha hb
theorem pow_f_nz {x : F97} (h : x ≠ 0) : ∀ k : Nat, x ^ k ≠ 0
  | 0 => by
    have : x ^ 0 = 1 := by grind
    rw [this]
    decide
  | k + 1 => by
    rw [f_pow]
    exact mul_nz (pow_f_nz h k) h
theorem sig_eq {a b : Int} (ha : 0 ≤ a ∧ a < 97) (h : ph a = ph b) : a = b % 97 := ph_inj ha (by omega) (by rw [ph_mod]; exact h)
theorem found1 {f : List Int} (hl : f.length = 6) (hs : Sigs f) {p : Nat} {e : F97} (hp : p < 24) (he : e ≠ 0) (h : ∀ k, k < 6 → ph (f.getD k 0) = e * Xp p ^ (k + 1)) : oneM f ≠ none := by
  have nz : ¬ 0 ∈ f := fun z => by
    obtain ⟨k, hk, ek⟩ := List.mem_iff_getElem.mp z
    have q := h k (by omega)
    rw [List.getD_eq_getElem?_getD, List.getElem?_eq_getElem hk, Option.getD_some, ek] at q
    exact mul_nz he (pow_f_nz (Xp_ne p hp) (k + 1)) q.symm
  have g0 := nz_ph hl hs nz (k := 0) (by omega)
  have iv := ph_inv g0.1 g0.2
  have hx : ph (f.getD 1 0 * inv97 (f.getD 0 0) % 97) = Xp p := by
    have q0 := h 0 (by omega)
    have q1 := h 1 (by omega)
    rw [ph_mod, ph_mul]
    generalize ph (inv97 (f.getD 0 0)) = I at *
    rw [q0] at iv
    rw [q1]
    generalize Xp p = x at *
    grind
  unfold oneM
  rw [if_neg nz]
  dsimp only
  rw [if_pos, placeM_is (by omega) hp hx]
  · simp
  · refine List.all_eq_true.mpr fun k hk => ?_
    have hk := List.mem_range.mp hk
    refine beq_iff_eq.mpr (sig_eq (hs.getD _) ?_)
    rw [ph_mul, hx, h (k + 1) (by omega), h k (by omega), f_pow _ (k + 1)]
    grind
theorem found2 {f : List Int} (hl : f.length = 6) (hs : Sigs f) {p q : Nat} {a b : F97} (hp : p < 24) (hq : q < 24) (hpq : p < q) (ha : a ≠ 0) (hb : b ≠ 0) (h : ∀ k, k < 6 → ph (f.getD k 0) = a * Xp p ^ (k + 1) + b * Xp q ^ (k + 1)) : twoM f ≠ none := by
  have up := Xp_ne p hp
  have uq := Xp_ne q hq
  have upq : Xp p - Xp q ≠ 0 := fun z => by
    have := Xp_inj p hp q hq (by grind)
    omega
  have q0 := h 0 (by omega)
  have q1 := h 1 (by omega)
  have q2 := h 2 (by omega)
  have q3 := h 3 (by omega)
  have eb : ph (belowM f) = a * b * Xp p * Xp q * (Xp p - Xp q) * (Xp p - Xp q) := by
    unfold belowM
    rw [ph_mod, ph_sub, ph_mul, ph_mul, q0, q1, q2]
    generalize Xp p = u at *
    generalize Xp q = v at *
    grind
  have bz : ph (belowM f) ≠ 0 := by
    rw [eb]
    exact mul_nz (mul_nz (mul_nz (mul_nz (mul_nz ha hb) up) uq) upq) upq
  have b0 : belowM f ≠ 0 := fun z => bz (by rw [z]; rfl)
  have bb : 0 ≤ belowM f ∧ belowM f < 97 := sig_mod _
  have iv := ph_inv (a := belowM f) (by omega) (by omega)
  have es : ph (sM f) = Xp p + Xp q := by
    unfold sM
    rw [ph_mod, ph_mul, ph_sub, ph_mul, ph_mul, q0, q1, q2, q3]
    refine f_cancel bz ?_
    rw [show ∀ x y : F97, x * y * ph (belowM f) = x * (ph (belowM f) * y) by intro x y; grind, iv, eb]
    generalize Xp p = u at *
    generalize Xp q = v at *
    grind
  have ep : ph (pM f) = Xp p * Xp q := by
    unfold pM
    rw [ph_mod, ph_mul, ph_sub, ph_mul, ph_mul, q1, q2, q3]
    refine f_cancel bz ?_
    rw [show ∀ x y : F97, x * y * ph (belowM f) = x * (ph (belowM f) * y) by intro x y; grind, iv, eb]
    generalize Xp p = u at *
    generalize Xp q = v at *
    grind
  have root : ∀ i, (Xp i - Xp p) * (Xp i - Xp q) = 0 → rootM (sM f) (pM f) i = true := fun i hi => by
    unfold rootM
    refine beq_iff_eq.mpr (ph_0 ?_)
    rw [ph_add, ph_sub, ph_mul, ph_mul, es, ep]
    change Xp i * Xp i - (Xp p + Xp q) * Xp i + Xp p * Xp q = 0
    grind
  have mp : p ∈ placesM (sM f) (pM f) := List.mem_filter.mpr ⟨List.mem_range.mpr hp, root p (by grind)⟩
  have mq : q ∈ placesM (sM f) (pM f) := List.mem_filter.mpr ⟨List.mem_range.mpr hq, root q (by grind)⟩
  have hg : goesM f (sM f) (pM f) = true := by
    unfold goesM
    refine List.all_eq_true.mpr fun k hk => ?_
    have hk := List.mem_range.mp hk
    refine beq_iff_eq.mpr (ph_0 ?_)
    have := rec2 (a := a) (b := b) (s := Xp p + Xp q) (p := Xp p * Xp q) (u := Xp p) (v := Xp q) (by grind) (by grind) k
    rw [ph_sub, ph_sub, ph_mul, ph_mul, es, ep, h (k + 1) (by omega), h k (by omega), h (k + 2) (by omega), this]
    grind
  unfold twoM
  rw [if_neg b0]
  rcases hz : placesM (sM f) (pM f) with _ | ⟨i, _ | ⟨j, r⟩⟩
  · rw [hz] at mp
    cases mp
  · rw [hz] at mp mq
    rw [List.mem_singleton.mp mp, List.mem_singleton.mp mq] at hpq
    omega
  · dsimp only
    rw [if_pos hg]
    simp
/-! the law -/
theorem err_nin {i : Nat} : ∀ {ts : List (Int × Int)}, i ∉ ts.map (fun t => t.1.toNat) → err ts i = 0
  | [], _ => rfl
  | t :: ts, h => by
    rw [List.map_cons, List.mem_cons] at h
    show (if i = t.1.toNat then ph t.2 else 0) + err ts i = 0
    rw [if_neg fun z => h (.inl z), err_nin fun z => h (.inr z)]
    rfl
theorem err_in {u : Int × Int} : ∀ {ts : List (Int × Int)}, (ts.map fun t => t.1.toNat).Nodup → u ∈ ts → err ts u.1.toNat = ph u.2
  | [], _, h => by cases h
  | t :: ts, nd, h => by
    rw [List.map_cons, List.nodup_cons] at nd
    show (if u.1.toNat = t.1.toNat then ph t.2 else 0) + err ts u.1.toNat = ph u.2
    rcases List.mem_cons.mp h with rfl | h
    · rw [if_pos rfl, err_nin nd.1]
      grind
    · rw [if_neg fun (z : u.1.toNat = t.1.toNat) => nd.1 (z ▸ List.mem_map_of_mem (f := fun t : Int × Int => t.1.toNat) h), err_in nd.2 h]
      grind
theorem same_err {ts us : List (Int × Int)} (ht : ∀ t ∈ ts, t.1.toNat < 24) (hu : ∀ t ∈ us, t.1.toNat < 24) (hl : ts.length + us.length ≤ 6) (h : ∀ k, k < 6 → G (k + 1) ts = G (k + 1) us) (i : Nat) : err ts i = err us i := by
  let L := (List.range 24).filter fun i => decide (i ∈ ts.map (fun t => t.1.toNat) ∨ i ∈ us.map (fun t => t.1.toNat))
  have nd : L.Nodup := List.nodup_range.filter _
  have memL : ∀ i, i ∈ L ↔ (i < 24 ∧ (i ∈ ts.map (fun t => t.1.toNat) ∨ i ∈ us.map (fun t => t.1.toNat))) := fun i => by
    show i ∈ List.filter _ _ ↔ _
    rw [List.mem_filter, List.mem_range, decide_eq_true_iff]
  have len : L.length ≤ 6 := by
    have : L.length ≤ (ts.map (fun t => t.1.toNat) ++ us.map (fun t => t.1.toNat)).length := by
      refine List.Nodup.length_le_of_subset nd fun i hi => ?_
      exact List.mem_append.mpr ((memL i).mp hi).2
    rw [List.length_append, List.length_map, List.length_map] at this
    omega
  have v := vander L (fun i => err ts i - err us i) nd (fun i hi => ((memL i).mp hi).1) fun j j1 j2 => by
    obtain ⟨k, rfl⟩ : ∃ k, j = k + 1 := ⟨j - 1, by omega⟩
    have e1 := G_err (k + 1) nd ts fun t h => (memL _).mpr ⟨ht t h, .inl (List.mem_map_of_mem (f := fun t : Int × Int => t.1.toNat) h)⟩
    have e2 := G_err (k + 1) nd us fun t h => (memL _).mpr ⟨hu t h, .inr (List.mem_map_of_mem (f := fun t : Int × Int => t.1.toNat) h)⟩
    have e3 : LS L (fun i => err ts i * Xp i ^ (k + 1)) = LS L (fun i => (err ts i - err us i) * Xp i ^ (k + 1)) + LS L (fun i => err us i * Xp i ^ (k + 1)) := by
      rw [← LS_add]
      exact LS_congr fun i _ => by grind
    rw [e1, e2, h k (by omega)] at e3
    grind
  by_cases hi : i ∈ L
  · have := v i hi
    grind
  · have n1 : i ∉ ts.map (fun t => t.1.toNat) := fun z => hi ((memL i).mpr ⟨by
      obtain ⟨t, ht', rfl⟩ := List.mem_map.mp z
      exact ht t ht', .inl z⟩)
    have n2 : i ∉ us.map (fun t => t.1.toNat) := fun z => hi ((memL i).mpr ⟨by
      obtain ⟨t, ht', rfl⟩ := List.mem_map.mp z
      exact hu t ht', .inr z⟩)
    rw [err_nin n1, err_nin n2]
theorem unturn_at : ∀ (ts : List (Int × Int)) (c : List Int), (∀ t ∈ ts, t.1.toNat < c.length) → ∀ i, i < c.length → ph ((unturn c ts).getD i 0) = ph (c.getD i 0) - err ts i
  | [], c, _, i, _ => by
    show ph (c.getD i 0) = _ - 0
    grind
  | t :: ts, c, h, i, hi => by
    have q := unturn_at ts (c.set t.1.toNat ((c.getD t.1.toNat 0 - t.2) % 97)) (fun u hu => by rw [List.length_set]; exact h u (by simp [hu])) i (by rw [List.length_set]; exact hi)
    have e : unturn c (t :: ts) = unturn (c.set t.1.toNat ((c.getD t.1.toNat 0 - t.2) % 97)) ts := rfl
    rw [e, q]
    show _ = _ - ((if i = t.1.toNat then ph t.2 else 0) + err ts i)
    rw [List.getD_eq_getElem?_getD, List.getElem?_set]
    by_cases z : i = t.1.toNat
    · subst z
      rw [if_pos rfl, if_pos hi, if_pos rfl, Option.getD_some, ph_mod, ph_sub]
      grind
    · rw [if_neg (fun y => z y.symm), if_neg z, List.getD_eq_getElem?_getD]
      grind
theorem unturn_sig (ts : List (Int × Int)) : ∀ c, Sigs c → Sigs (unturn c ts) := by
  induction ts with
  | nil => exact fun c h => h
  | cons t ts ih =>
    intro c h
    unfold unturn
    rw [List.foldl_cons]
    refine ih _ fun n hn => ?_
    rcases List.mem_or_eq_of_mem_set hn with hn | rfl
    · exact h n hn
    · omega
theorem seal_sig {ns : List Int} (hs : Sigs ns) : Sigs (sealM ns) := fun n hn => by
  unfold sealM at hn
  rcases List.mem_append.mp hn with hn | hn
  · exact hs n hn
  · obtain ⟨k, _, rfl⟩ := List.mem_map.mp hn
    omega
theorem TurnsOk.lt {ts : List (Int × Int)} (h : TurnsOk ts) : ∀ t ∈ ts, t.1.toNat < 24 := fun t ht => by
  have := h.ok t ht
  omega
theorem TurnsOk.nd {ts : List (Int × Int)} (h : TurnsOk ts) : (ts.map fun t => t.1.toNat).Nodup := by
  rw [List.Nodup, List.pairwise_map]
  refine List.Pairwise.imp_of_mem (fun {a b} ha hb hab => ?_) h.up
  have := h.ok a ha
  have := h.ok b hb
  omega
theorem TurnsOk.nz {ts : List (Int × Int)} (h : TurnsOk ts) : ∀ t ∈ ts, ph t.2 ≠ 0 := fun t ht => by
  have := h.ok t ht
  exact ph_nz (by omega) (by omega)
theorem mend_yes {ns : List Int} (hl : ns.length = 18) (hs : Sigs ns) {ts : List (Int × Int)} (ht : TurnsOk ts) (h2 : ts.length ≤ 2) : mendM (turnedM (sealM ns) ts) = some (sealM ns) := by
  have fl := sums_len (turnedM (sealM ns) ts)
  have fs := sums_sig (turnedM (sealM ns) ts)
  have eq : ∀ k, k < 6 → ph ((sumsM (turnedM (sealM ns) ts)).getD k 0) = G (k + 1) ts := fun k hk => turned_sums hl ht.lt hk
  have some_ : turnsM (sumsM (turnedM (sealM ns) ts)) ≠ none := by
    generalize sumsM (turnedM (sealM ns) ts) = f at *
    match ts, h2, ht, eq with
    | [], _, _, eq => exact found0 fl fs eq
    | [t], _, ht, eq =>
      have := found1 fl fs (ht.lt t (by simp)) (ht.nz t (by simp)) fun k hk => by
        rw [eq k hk]
        show ph t.2 * _ + 0 = _
        grind
      unfold turnsM
      split
      · simp
      · cases ho : oneM f with
        | none => exact absurd ho this
        | some u => simp
    | [t, u], _, ht, eq =>
      have up := ht.up
      rw [List.pairwise_cons] at up
      have o1 := ht.ok t (by simp)
      have o2 := up.1 u (by simp)
      have := found2 fl fs (ht.lt t (by simp)) (ht.lt u (by simp)) (by omega) (ht.nz t (by simp)) (ht.nz u (by simp)) fun k hk => by
        rw [eq k hk]
        show ph t.2 * _ + (ph u.2 * _ + 0) = _
        grind
      unfold turnsM
      split
      · simp
      · cases ho : oneM f with
        | none => exact this
        | some u => simp
    | _ :: _ :: _ :: _, h2, _, _ => exact absurd h2 (by simp)
  cases hu : turnsM (sumsM (turnedM (sealM ns) ts)) with
  | none => exact absurd hu some_
  | some us =>
    have so := turns_sound fl fs hu
    have sl := seal_len hl
    have ss := seal_sig hs
    have tl := turnedM_len ts (sealM ns)
    unfold mendM
    rw [hu]
    refine congrArg some (List.ext_getElem (by rw [unturn_len, tl]) fun i i1 i2 => ?_)
    have se := same_err ht.lt so.lt (by have := so.len; omega) (fun k hk => (eq k hk).symm.trans (so.eq k hk)) i
    have a1 := unturn_at us (turnedM (sealM ns) ts) (fun t h => by rw [tl, sl]; exact so.lt t h) i (by omega)
    rw [turned_at ts _ (fun t h => by rw [sl]; exact ht.lt t h) i (by omega), se] at a1
    have a2 : ph ((unturn (turnedM (sealM ns) ts) us).getD i 0) = ph ((sealM ns).getD i 0) := by
      rw [a1]
      grind
    have a3 := ph_inj ((unturn_sig us _ (turnedM_sig ts _ ss)).getD i) (ss.getD i) a2
    rw [List.getD_eq_getElem?_getD, List.getD_eq_getElem?_getD, List.getElem?_eq_getElem i1, List.getElem?_eq_getElem i2] at a3
    exact a3
theorem mend_no {ns : List Int} (hl : ns.length = 18) (hs : Sigs ns) {ts : List (Int × Int)} (ht : TurnsOk ts) (h3 : 3 ≤ ts.length) (h4 : ts.length ≤ 4) : mendM (turnedM (sealM ns) ts) = none := by
  have fl := sums_len (turnedM (sealM ns) ts)
  have fs := sums_sig (turnedM (sealM ns) ts)
  have eq : ∀ k, k < 6 → ph ((sumsM (turnedM (sealM ns) ts)).getD k 0) = G (k + 1) ts := fun k hk => turned_sums hl ht.lt hk
  cases hu : turnsM (sumsM (turnedM (sealM ns) ts)) with
  | none =>
    unfold mendM
    rw [hu]
    rfl
  | some us =>
    have so := turns_sound fl fs hu
    have se := same_err ht.lt so.lt (by have := so.len; omega) fun k hk => (eq k hk).symm.trans (so.eq k hk)
    have sub : ∀ i ∈ ts.map (fun t => t.1.toNat), i ∈ us.map (fun t => t.1.toNat) := fun i hi => by
      obtain ⟨t, h, rfl⟩ := List.mem_map.mp hi
      refine Classical.byContradiction fun z => ?_
      have e := se t.1.toNat
      rw [err_in ht.nd h, err_nin z] at e
      exact ht.nz t h e
    have := List.Nodup.length_le_of_subset ht.nd sub
    rw [List.length_map, List.length_map] at this
    have := so.len
    omega

end K85
end
section
set_option maxHeartbeats 400000
namespace K85
open PySem PySem.Spec PyProof.Rows
open L2 hiding CX0 E0 pass0
open C8 Evl
/-! ### tactics -/
local macro_rules | `(tactic| walk_at "side") => `(tactic| first | omega | assumption | rfl | decide)
local macro_rules | `(tactic| walk_at "at") => `(tactic| first | (refine at_int ?_ ?_ <;> first | omega | (simp; omega)) | assumption)
local macro_rules | `(tactic| walk_at "rv") => `(tactic| first
  | with_reducible exact rv_I0
  | ((with_reducible apply rv_eq); rfl)
  | ((with_reducible apply rv_ne); rfl)
  | ((with_reducible apply rv_mod); first | omega | decide)
  | ((with_reducible apply rv_mul); omega)
  | ((with_reducible apply rv_div); omega)
  | ((with_reducible apply rv_ixL); · assumption
     · walk_at "at")
  | ((with_reducible apply rv_ixT); · assumption
     · walk_at "at"))
local macro_rules | `(tactic| walk_at "ev") => `(tactic| first
  | ((with_reducible apply ev_var); rfl)
  | with_reducible exact ev_c
  | ((with_reducible apply ev_isN); walk_at "ev")
  | ((with_reducible apply ev_notN); walk_at "ev")
  | ((with_reducible apply ev_op); · walk_at "ev"
     · walk_at "ev"
     · walk_at "rv")
  | ((with_reducible apply ev_un); · walk_at "ev"
     · with_reducible exact ru_neg)
  | ((with_reducible apply ev_chain); · walk_at "ev"
     · walk_at "ev"
     · walk_at "rv"
     · intro _; walk_at "ev"
     · intro _; walk_at "rv")
  | ((with_reducible apply ev_len); · walk_at "ev"
     · assumption)
  | ((with_reducible apply ev_lenT); · walk_at "ev"
     · assumption)
  | ((with_reducible apply ev_andV); · walk_at "ev"
     · intro _; walk_at "ev")
  | with_reducible assumption)
local macro_rules | `(tactic| walk_at "evt") => `(tactic| first
  | ((with_reducible apply et_or); · walk_at "evt"
     · intro _; walk_at "evt")
  | ((with_reducible apply et_and); · walk_at "evt"
     · intro _; walk_at "evt")
  | ((with_reducible apply et_not); walk_at "evt")
  | ((with_reducible apply et_test); walk_at "ev")
  | ((with_reducible apply et_B); walk_at "ev")
  | with_reducible assumption)
local macro_rules | `(tactic| walk_at "bool") => `(tactic| first | rfl | (simp; done) | (simp; omega) | (simp; intros; omega) | grind)
section
variable {K : PySem.W.Frag} {mg : Str → Option Value}
/-! ### a piece sent -/
theorem el_catR {σ : L2.St} {H : Hp} {ta tb : TE} {b : Addr} {xs ys : List V} (ha : EvL ta σ H xs) (hb : Ev tb σ H (.ref b)) (h : SqL K H b ys) (hz : xs.length + ys.length ≤ 100000) : EvL (tOp (rCatS K) ta tb) σ H (xs ++ ys) := fun H1 e Q k =>
  ha H1 e _ fun p H2 hp0 e2 hp => hb H2 (e.trans e2) _ fun H3 e3 => rv_cat (sq_of (e3 p _ hp)) (ex_l ((e.trans e2).trans e3) h) hz H3 (Ex.refl H3) Q fun l H4 hl e4 h4 => k l H4 (fresh_back (e2.trans e3) hl) ((e2.trans e3).trans e4) h4
def cellOf (pc : List Int) : List Int := ([(pc.length : Int)] ++ pc) ++ (List.range (17 - pc.length)).map fun k : Nat => (7 * (k : Int) + (pc.length : Int)) % 97
theorem cellOf_len {pc : List Int} (h : pc.length ≤ 10) : (cellOf pc).length = 18 := by
  unfold cellOf
  rw [List.length_append, List.length_append, List.length_map, List.length_range, List.length_singleton]
  omega
theorem cellOf_sig {pc : List Int} (h : pc.length ≤ 10) (sg : Sigs pc) : Sigs (cellOf pc) := fun n hn => by
  unfold cellOf at hn
  rcases List.mem_append.mp hn with hn | hn
  · rcases List.mem_append.mp hn with hn | hn
    · rw [List.mem_singleton.mp hn]
      omega
    · exact sg n hn
  · obtain ⟨k, _, rfl⟩ := List.mem_map.mp hn
    omega
theorem cellOf_cut {pc : List Int} (h : pc.length ≤ 10) : (((sealM (cellOf pc)).map V.int).drop 1).take pc.length = pc.map V.int := by
  unfold sealM cellOf
  rw [List.append_assoc, List.append_assoc, List.map_append, List.map_cons, List.map_nil, List.singleton_append, List.drop_succ_cons, List.drop_zero, List.map_append, List.take_left' (List.length_map ..)]
def sp_law_sent (K : PySem.W.Frag) : Sp := fun vs H Q _ => ∃ (a l : Addr) (pc : List Int), vs = [.ref a, .ref l] ∧ SqL K H a (pc.map V.int) ∧ Sigs pc ∧ pc.length ≤ 10 ∧ LeftAt H l ∧ ∀ q H', H q = none → Bt [l] H H' → LeftAt H' l → H' q = some (.lst (pc.map V.int)) → Q (.ref q) H'
/-- _law_sent -/
def t_law_sent (K : PySem.W.Frag) : TS :=
    (tSeq (tAsg (tCall (sp_sealed K) [] C8.E0 (tCons (tOp (rCatS K) (tOp (rCatS K) (tLst (tCons (tCB (Evl.rLenS K) (tCons (tVar 0) tNil)) tNil)) (tVar 0)) (tLc (iRng1 (tCons (tOp rSubI (tC (.int 17)) (tCB (Evl.rLenS K) (tCons (tVar 0) tNil))) tNil)) (gName 4) tYes (tOp rModI (tOp rAddI (tOp rMulI (tC (.int 7)) (tVar 4)) (tCB (Evl.rLenS K) (tCons (tVar 0) tNil))) (tC (.int 97))) [4])) tNil)) (gName 2))
    (tSeq (tIfS (tTest (tOp rNotN (tCall (sp_mended K) [] C8.E0 (tCons (tCall (sp_law_turned K) [] C8.E0 (tCons (tVar 2) (tCons (tCall (sp_law_turns K) [] C8.E0 (tCons (tVar 1) (tCons (tOp rAddI (tC (.int 3)) (tCall (sp_law_next K) [] C8.E0 (tCons (tVar 1) (tCons (tC (.int 2)) tNil)))) tNil))) tNil))) tNil)) (tC .non))) (tRet (tC .non)) tNext)
    (tSeq (tAsg (tCall (sp_mended K) [] C8.E0 (tCons (tCall (sp_law_turned K) [] C8.E0 (tCons (tVar 2) (tCons (tCall (sp_law_turns K) [] C8.E0 (tCons (tVar 1) (tCons (tCall (sp_law_next K) [] C8.E0 (tCons (tVar 1) (tCons (tC (.int 3)) tNil))) tNil))) tNil))) tNil)) (gName 3))
    (tSeq (tIfS (tTest (tOp (rNeD K) (tVar 3) (tVar 2))) (tRet (tC .non)) tNext)
    (tRet (tSl (rSlL K) (tVar 3) (tPart (tC (.int 1))) (tPart (tOp rAddI (tC (.int 1)) (tOp (rIxL K) (tVar 3) (tC (.int 0)))))))))))
theorem RetM.no {o : Option (List Int)} (h : o = none) {H : Hp} {Q : VK} (k : ∀ H2, Ex H H2 → Q .non H2) : RetM o H Q := by
  subst h
  exact k
theorem RetM.yes {o : Option (List Int)} {m : List Int} (h : o = some m) {H : Hp} {Q : VK} (k : RetL (m.map V.int) H Q) : RetM o H Q := by
  subst h
  exact k
theorem pure_law_sent (_ : Wd K mg) (vs : List V) (H : Hp) (Q : VK) (E : XK) (h : sp_law_sent K vs H Q E) : t_law_sent K { nx := fun _ H' => Q .non H', rt := Q } (start ["piece", "left", "cell", "found", "k"] vs) H := by
  obtain ⟨a, l, pc, rfl, ha, sg, hl, L, k⟩ := h
  have hlen : ∀ H1 (σ : L2.St), Ex H H1 → σ[0]? = some (some (.ref a)) → Ev (tCB (Evl.rLenS K) (tCons (tVar 0) tNil)) σ H1 (.int (pc.length : Int)) := fun H1 σ e hσ => ev_is (ev_len (ev_var hσ) (ex_l e ha)) (by rw [List.length_map])
  have cl := cellOf_len hl
  have cs := cellOf_sig hl sg
  have sl := seal_len cl
  have ss := seal_sig cs
  refine q_asgL (xs := (sealM (cellOf pc)).map V.int) ?_ fun c H1 hc e1 h1 => ?_
  · intro H0 e0 Q q
    refine el_is (el_cat (el_catR (el_lst (ea_cons (hlen H _ (Ex.refl H) rfl) ea_nil) (Nat.le_of_ble_eq_true rfl)) (ev_var rfl) ha (by simp; omega)) (el_mapR1 (n := 17 - (pc.length : Int)) (fun k : Nat => (7 * (k : Int) + (pc.length : Int)) % 97) (ea_cons (ev_op ev_c (hlen H _ (Ex.refl H) rfl) rv_I0) ea_nil) (by omega) (fun _ => rfl) fun j H2 e2 hj => ?_) ?_) (ys := (cellOf pc).map V.int) ?_ H0 e0 _ fun p H2 hp e2 h2 => ⟨p, cellOf pc, rfl, sq_of h2, cl, cs, fun r H3 hr e3 h3 => q r H3 (fresh_back e2 hr) (e2.trans e3) h3⟩
    · exact ev_op (ev_op (ev_op ev_c (ev_var rfl) (rv_mul (.inl (by decide)))) (hlen H2 _ e2 rfl) rv_I0) ev_c (rv_mod (by decide))
    · simp
      omega
    · unfold cellOf
      rw [List.map_append, List.map_append, show (17 - (pc.length : Int)).toNat = 17 - pc.length by omega]
      rfl
  · have nlc := L.new hc
    have L1 := L.ex e1
    refine ⟨_, rfl, _, rfl, nx (base := 2) rfl L1 (by decide) (by decide) fun r H2 r0 r1 b2 L2 => ⟨3, r, rfl, rfl, l, (3 + r).toNat, by rw [show (((3 + r).toNat : Nat) : Int) = 3 + r by omega]; rfl, L2, by omega, fun v ts H3 b3 L3 tok tl iv => ?_⟩⟩
    have b13 := (Bt.ex (S := [l]) e1).trans (b2.trans b3)
    have h3 := (b2.trans b3).at h1 (by simpa using nlc.symm)
    refine ⟨c, v, sealM (cellOf pc), ts, rfl, sq_of h3, sl, tok, iv, fun m H4 hm e4 h4 => ?_⟩
    refine ⟨m, turnedM (sealM (cellOf pc)) ts, rfl, sq_of h4, by rw [turnedM_len, sl], turnedM_sig ts _ ss, RetM.no (mend_no cl cs tok (by omega) (by omega)) fun H5 e5 => ⟨rfl, false, rfl, ?_⟩⟩
    have e35 := e4.trans e5
    have L5 := L3.ex e35
    have h5 := e35 _ _ h3
    have b15 := b13.trans (Bt.ex (S := [l]) e35)
    refine ⟨_, rfl, _, rfl, nx (base := 3) rfl L5 (by decide) (by decide) fun r H6 r0 r1 b6 L6 => ⟨l, r.toNat, by rw [show ((r.toNat : Nat) : Int) = r by omega]; rfl, L6, by omega, fun v ts H7 b7 L7 tok tl iv => ?_⟩⟩
    have h7 := (b6.trans b7).at h5 (by simpa using nlc.symm)
    have b17 := b15.trans (b6.trans b7)
    refine ⟨c, v, sealM (cellOf pc), ts, rfl, sq_of h7, sl, tok, iv, fun m H8 hm e8 h8 => ?_⟩
    refine ⟨m, turnedM (sealM (cellOf pc)) ts, rfl, sq_of h8, by rw [turnedM_len, sl], turnedM_sig ts _ ss, RetM.yes (mend_yes cl cs tok (by omega)) fun f H9 hf e9 h9 => ?_⟩
    have e79 := e8.trans e9
    have h9c := e79 _ _ h7
    refine q_when (b := false) (et_is (et_test (ev_op (ev_var rfl) (ev_var rfl) (rv_neD (dp_lints (sq_of h9)) (dp_lints (sq_of h9c)) (shaped_lints _) (shaped_lints _)))) (by rw [eqv_lints]; simp)) (fun h => nomatch h) fun _ H10 e10 => ?_
    have h10 := e10 _ _ h9
    have b110 := (b17.trans (Bt.ex (S := [l]) (e79.trans e10)))
    have L10 := (L7.ex e79).ex e10
    refine s_retL (xs := pc.map V.int) (el_is (el_sl (lo := some ((1 : Nat) : Int)) (hi := some ((1 + pc.length : Nat) : Int)) (ev_var rfl) (eo_some ev_c) (eo_some (ev_is (ev_op ev_c (ev_op (ev_var rfl) ev_c (rv_ixL (v := .int (pc.length : Int)) (sq_of h10) (at_nat (by decide) rfl))) rv_I0) (by rw [Int.natCast_add]; rfl))) (sq_of h10)) ((cut_nat (by rw [List.length_map, sl]; omega)).trans (cellOf_cut hl))) fun q H11 hq e11 h11 => ?_
    exact k q H11 (L10.back b110 hq) (b110.trans (Bt.ex e11)) (L10.ex e11) h11
section
variable {P : Program} {w : World} {K : PySem.W.Frag} {mg : Str → Option Value} {base : Heap}
theorem sc_law_sent : FnScope ["piece", "left", "cell", "found", "k"] ["piece", "left"] (defScope s_law_sent) := ⟨rfl, rfl, rfl, by decide +kernel, rfl, by decide +kernel, by decide +kernel⟩
theorem dr_law_sent (T : Wd K mg) (c_sealed : Cal P w K mg base 2 "sealed" (sp_sealed K) []) (c_law_next : Cal P w K mg base 1 "_law_next" (sp_law_next K) []) (c_law_turns : Cal P w K mg base 2 "_law_turns" (sp_law_turns K) []) (c_law_turned : Cal P w K mg base 1 "_law_turned" (sp_law_turned K) []) (c_mended : Cal P w K mg base 5 "mended" (sp_mended K) []) {f : Addr} {cdv : Value} {A : Around} {outer : List Env} {s : Shared} {H : Hp} {E : XK} (hr : Room 5 (A.deeper (envOfC "_law_sent" (defScope s_law_sent) s.heap.objs.size f cdv))) :
    PSs (cxOf CX0 P w K mg base ["piece", "left", "cell", "found", "k"] "_law_sent" (defScope s_law_sent) f cdv A outer s H E).nox (defBody s_law_sent) (t_law_sent K) := by
  have nd := sc_law_sent.nd
  exact (pss_cons (ps_set (i := 2) nd rfl (by first | exact Or.inl rfl | exact Or.inr rfl) (pe_c c_sealed hr (by decide) rfl (pa_cons (pe_op op_catS (pe_op op_catS (pe_lst (pa_cons (pe_callB call_len_seq (by rfl) (T.free 97) (by decide +kernel) (pa_cons (pv 0) pa_nil)) pa_nil)) (pv 0)) (pe_lc (own := [("k", 4)]) (g := (gName 4)) (tt := tYes) rfl nd (pi_range1 (by rfl) (T.free 101) (pa_cons (pe_op op_sub pe_int (pe_callB call_len_seq (by rfl) (T.free 97) (by decide +kernel) (pa_cons (pv 0) pa_nil))) pa_nil)) (blkOk_by (by kernel_rfl)) (fun _ _ _ _ _ => (pg_name (i := 4) nd rfl (by first | exact Or.inl rfl | exact Or.inr rfl))) (fun _ _ _ _ _ => pts_nil) (fun _ _ _ _ _ => (pe_op op_mod (pe_op op_add (pe_op op_mul pe_int (pv 4)) (pe_callB call_len_seq (by rfl) (T.free 97) (by decide +kernel) (pa_cons (pv 0) pa_nil))) pe_int)))) pa_nil)))
    (pss_cons (ps_if (pt_cmpR op_notN1 (pe_c c_mended hr (by decide) rfl (pa_cons (pe_c c_law_turned hr (by decide) rfl (pa_cons (pv 2) (pa_cons (pe_c c_law_turns hr (by decide) rfl (pa_cons (pv 1) (pa_cons (pe_op op_add pe_int (pe_c c_law_next hr (by decide) rfl (pa_cons (pv 1) (pa_cons pe_int pa_nil)))) pa_nil))) pa_nil))) pa_nil)) pe_non (nomark _)) (pss_one (ps_ret pe_non)) pss_nil)
    (pss_cons (ps_set (i := 3) nd rfl (by first | exact Or.inl rfl | exact Or.inr rfl) (pe_c c_mended hr (by decide) rfl (pa_cons (pe_c c_law_turned hr (by decide) rfl (pa_cons (pv 2) (pa_cons (pe_c c_law_turns hr (by decide) rfl (pa_cons (pv 1) (pa_cons (pe_c c_law_next hr (by decide) rfl (pa_cons (pv 1) (pa_cons pe_int pa_nil))) pa_nil))) pa_nil))) pa_nil)))
    (pss_cons (ps_if (pt_cmpR (op_neD hr.units) (pv 3) (pv 2) (nomark _)) (pss_one (ps_ret pe_non)) pss_nil)
    (pss_one (ps_ret (pe_slice sl_list (pv 3) (po_some pe_int) (po_some (pe_op op_add pe_int (pe_ix ix_list (pv 3) pe_int (fun _ _ => rfl)))))))))))
theorem ok_law_sent (T : Wd K mg) (c_sealed : Cal P w K mg base 2 "sealed" (sp_sealed K) []) (c_law_next : Cal P w K mg base 1 "_law_next" (sp_law_next K) []) (c_law_turns : Cal P w K mg base 2 "_law_turns" (sp_law_turns K) []) (c_law_turned : Cal P w K mg base 1 "_law_turned" (sp_law_turned K) []) (c_mended : Cal P w K mg base 5 "mended" (sp_mended K) []) {f : Addr} {fd : FuncData} (F : FunD K ds_law_sent.name ds_law_sent.qual ds_law_sent.params ds_law_sent.body ds_law_sent.scope [] [] f fd) : FnOk P w K mg base CX0 6 f fd ["piece", "left"] (sp_law_sent K) := by
  refine FunD.ok F sc_law_sent (fun vs H Q E h => ?_) (fun cdv A outer s H vs Q E hr h => ⟨t_law_sent K, PSs.nox (dr_law_sent T c_sealed c_law_next c_law_turns c_law_turned c_mended hr), pure_law_sent T vs H Q E h⟩)
  obtain ⟨_, _, _, e, _⟩ := h
  rw [e]
  all_goals rfl
end
end

end K85
end
section
set_option maxHeartbeats 400000
namespace K85
open PySem PySem.Spec PyProof.Rows
open L2 hiding CX0 E0 pass0
open C8 Evl
/-! ### tactics -/
local macro_rules | `(tactic| walk_at "side") => `(tactic| first | omega | assumption | rfl | decide)
local macro_rules | `(tactic| walk_at "at") => `(tactic| first | (refine at_int ?_ ?_ <;> first | omega | (simp; omega)) | assumption)
local macro_rules | `(tactic| walk_at "rv") => `(tactic| first
  | with_reducible exact rv_I0
  | ((with_reducible apply rv_eq); rfl)
  | ((with_reducible apply rv_ne); rfl)
  | ((with_reducible apply rv_mod); first | omega | decide)
  | ((with_reducible apply rv_mul); omega)
  | ((with_reducible apply rv_div); omega)
  | ((with_reducible apply rv_ixL); · assumption
     · walk_at "at")
  | ((with_reducible apply rv_ixT); · assumption
     · walk_at "at"))
local macro_rules | `(tactic| walk_at "ev") => `(tactic| first
  | ((with_reducible apply ev_var); rfl)
  | with_reducible exact ev_c
  | ((with_reducible apply ev_isN); walk_at "ev")
  | ((with_reducible apply ev_notN); walk_at "ev")
  | ((with_reducible apply ev_op); · walk_at "ev"
     · walk_at "ev"
     · walk_at "rv")
  | ((with_reducible apply ev_un); · walk_at "ev"
     · with_reducible exact ru_neg)
  | ((with_reducible apply ev_chain); · walk_at "ev"
     · walk_at "ev"
     · walk_at "rv"
     · intro _; walk_at "ev"
     · intro _; walk_at "rv")
  | ((with_reducible apply ev_len); · walk_at "ev"
     · assumption)
  | ((with_reducible apply ev_lenT); · walk_at "ev"
     · assumption)
  | ((with_reducible apply ev_andV); · walk_at "ev"
     · intro _; walk_at "ev")
  | with_reducible assumption)
local macro_rules | `(tactic| walk_at "evt") => `(tactic| first
  | ((with_reducible apply et_or); · walk_at "evt"
     · intro _; walk_at "evt")
  | ((with_reducible apply et_and); · walk_at "evt"
     · intro _; walk_at "evt")
  | ((with_reducible apply et_not); walk_at "evt")
  | ((with_reducible apply et_test); walk_at "ev")
  | ((with_reducible apply et_B); walk_at "ev")
  | with_reducible assumption)
local macro_rules | `(tactic| walk_at "bool") => `(tactic| first | rfl | (simp; done) | (simp; omega) | (simp; intros; omega) | grind)
section
variable {K : PySem.W.Frag} {mg : Str → Option Value}
/-! ### letters come -/
theorem Bt.via {S T : List Addr} {H H1 H2 : Hp} (b : Bt S H H1) (c : Bt T H1 H2) (h : ∀ p ∈ T, p ∈ S ∨ H p = none) : Bt S H H2 := fun y o n hy => c y o (fun z => by
  rcases h y z with h | h
  · exact n h
  · rw [h] at hy
    cases hy) (b y o n hy)
theorem Bt.cut {S : List Addr} {H H' : Hp} (T : List Addr) (b : Bt S H H') (h : ∀ p ∈ S, p ∈ T ∨ H p = none) : Bt T H H' := Bt.via (Bt.refl T H) b h
theorem JoinerAt.bt {S : List Addr} {H H' : Hp} {p q : Addr} {ns : List Int} (J : JoinerAt K H p q ns) (b : Bt S H H') (hp : ∀ s ∈ S, p ≠ s) (hq : ∀ s ∈ S, q ≠ s) : JoinerAt K H' p q ns := by
  obtain ⟨dx, h1, h2⟩ := J
  exact ⟨dx, b.at h1 hp, b.at h2 hq⟩
theorem JoinerAt.ins {H : Hp} {p q : Addr} {ns : List Int} (J : JoinerAt K H p q ns) : ∃ dx, H p = some (.ins (He.ga K "Joiner") dx [("so_far", .ref q)]) := by
  obtain ⟨dx, h1, h2⟩ := J
  exact ⟨dx, h1⟩
theorem many_pos {L : Letter} (ok : L.Ok) : 1 ≤ manyM L.signs ∧ manyM L.signs ≤ 9 ∧ L.signs.length ≤ 9 * manyM L.signs ∧ 9 * manyM L.signs < L.signs.length + 9 := by
  have h := letter_cut L
  have hl := h.2.2.2.2.2
  rw [List.length_map] at hl
  have w2 := ok.way.2.1
  have a1 := ok.a1
  have b1 := ok.b1
  unfold manyM
  omega
theorem piece_sig {L : Letter} (ok : L.Ok) {k : Nat} (hk : k < manyM L.signs) : Sigs (pieceM L.signs k) ∧ (pieceM L.signs k).length ≤ 10 := by
  have mp := many_pos ok
  constructor
  · intro n hn
    unfold pieceM at hn
    rcases List.mem_cons.mp hn with rfl | hn
    · omega
    · exact letter_sigs ok n (List.mem_of_mem_drop (List.mem_of_mem_take hn))
  · unfold pieceM
    rw [List.length_cons, List.length_take]
    omega
theorem join_step (ns : List Int) (k : Nat) : ns.take (9 * k) ++ (ns.drop (9 * k)).take 9 = ns.take (9 * (k + 1)) := by
  rw [Nat.mul_succ, List.take_add]
/-- where nothing has changed but a list, a joiner and what is left -/
theorem Tx.three {H H' : Hp} {l x c : Addr} {o1 o2 o3 : HO} (b : Bt [l, x, c] H H') (h1 : H l = some o1) (h2 : H x = some o2) (h3 : H c = some o3) (t1 : (∀ xs, o1 ≠ .tup xs) ∧ ∀ b u, o1 ≠ .frz b u) (t2 : (∀ xs, o2 ≠ .tup xs) ∧ ∀ b u, o2 ≠ .frz b u) (t3 : (∀ xs, o3 ≠ .tup xs) ∧ ∀ b u, o3 ≠ .frz b u) : Tx K H H' :=
  Bt.tx b fun q hq => by
    simp only [List.mem_cons, List.not_mem_nil, or_false] at hq
    rcases hq with rfl | rfl | rfl
    · exact ⟨_, h1, t1⟩
    · exact ⟨_, h2, t2⟩
    · exact ⟨_, h3, t3⟩
/-- how it stands with the letters that came -/
structure Came (K : PySem.W.Frag) (H : Hp) (l x c : Addr) (Ls : List Letter) (ns : List Int) : Prop where
  left : LeftAt H l
  join : ∃ q, q ≠ l ∧ q ≠ c ∧ JoinerAt K H x q ns
  came : ∃ ys, H c = some (.lst ys) ∧ ImAll K H ys (Ls.map Letter.data)
theorem Came.ne {H : Hp} {l x c : Addr} {Ls : List Letter} {ns : List Int} (C : Came K H l x c Ls ns) : x ≠ l ∧ x ≠ c := by
  obtain ⟨q, _, _, dx, h1, _⟩ := C.join
  obtain ⟨ys, h2, _⟩ := C.came
  obtain ⟨a, b, d, h3⟩ := C.left
  exact ⟨ne_of h1 h3 (by intro z; cases z), ne_of h1 h2 (by intro z; cases z)⟩
theorem Came.tx {H H' : Hp} {l x c : Addr} {Ls : List Letter} {ns : List Int} (C : Came K H l x c Ls ns) (b : Bt [l, x, c] H H') : Tx K H H' := by
  obtain ⟨q, _, _, dx, h1, _⟩ := C.join
  obtain ⟨ys, h2, _⟩ := C.came
  obtain ⟨a, b', d, h3⟩ := C.left
  exact Tx.three b h3 h1 h2 ⟨fun _ z => (by cases z), fun _ _ z => (by cases z)⟩ ⟨fun _ z => (by cases z), fun _ _ z => (by cases z)⟩ ⟨fun _ z => (by cases z), fun _ _ z => (by cases z)⟩
theorem Came.ex {H H' : Hp} {l x c : Addr} {Ls : List Letter} {ns : List Int} (C : Came K H l x c Ls ns) (e : Ex H H') : Came K H' l x c Ls ns := by
  obtain ⟨q, n1, n2, dx, h1, h4⟩ := C.join
  obtain ⟨ys, h2, i2⟩ := C.came
  exact ⟨C.left.ex e, ⟨q, n1, n2, dx, e _ _ h1, e _ _ h4⟩, ⟨ys, e _ _ h2, ImAll.ex e i2⟩⟩
/-- what is left is drawn from -/
theorem Came.drawn {H H' : Hp} {l x c : Addr} {Ls : List Letter} {ns : List Int} (C : Came K H l x c Ls ns) (nc : c ≠ l) (b : Bt [l] H H') (L : LeftAt H' l) : Came K H' l x c Ls ns := by
  have tx := C.left.tx (K := K) b
  have ne := C.ne
  obtain ⟨q, n1, n2, J⟩ := C.join
  obtain ⟨ys, h2, i2⟩ := C.came
  exact ⟨L, ⟨q, n1, n2, J.bt b (by simpa using ne.1) (by simpa using n1)⟩, ⟨ys, b.at h2 (by simpa using nc), ImAll.tx tx _ _ i2⟩⟩
/-- a piece is joined -/
theorem Came.joined {H H' : Hp} {l x c q' : Addr} {Ls : List Letter} {ns ms : List Int} (C : Came K H l x c Ls ns) (b : Bt [x] H H') (hq : H q' = none) (J : JoinerAt K H' x q' ms) : Came K H' l x c Ls ms := by
  have ne := C.ne
  obtain ⟨ys, h2, i2⟩ := C.came
  have tx := C.tx (b.mono (S' := [l, x, c]) (by simp))
  obtain ⟨a, b', d, h3⟩ := C.left
  exact ⟨⟨a, b', d, b.at h3 (by simpa using ne.1.symm)⟩, ⟨q', (ne_of_none h3 hq).symm, (ne_of_none h2 hq).symm, J⟩, ⟨ys, b.at h2 (by simpa using ne.2.symm), ImAll.tx tx _ _ i2⟩⟩
def sp_law_come (K : PySem.W.Frag) : Sp := fun vs H Q _ => ∃ (a l : Addr) (xs : List V) (Ls : List Letter), vs = [.ref a, .ref l] ∧ H a = some (.lst xs) ∧ a ≠ l ∧ ImAll K H xs (Ls.map Letter.data) ∧ (∀ Lt ∈ Ls, Lt.Ok) ∧ Ls.length ≤ 100 ∧ LeftAt H l ∧
  ∀ c ys H', H c = none → Bt [l] H H' → LeftAt H' l → H' c = some (.lst ys) → ImAll K H' ys (Ls.map Letter.data) → Q (.ref c) H'
/-- _law_come -/
def t_law_come (K : PySem.W.Frag) : TS :=
    (tSeq (tAsg (tMake (He.ga K "Joiner") (sp_Joiner_init K) [] C8.E0 tNil) (gName 2))
    (tSeq (tAsg (tLst tNil) (gName 3))
    (tSeq (tFor (iList K (tVar 0)) (gName 4)
    (tSeq (tAsg (tCall (sp_pieces_of K) [] C8.E0 (tCons (tCall (sp_letter_signs K) [] C8.E0 (tCons (tVar 4) tNil)) tNil)) (gName 5))
    (tFor (iRng1 (tCons (tCB (Evl.rLenS K) (tCons (tVar 5) tNil)) tNil)) (gName 6)
    (tSeq (tAsg (tCall (sp_law_sent K) [] C8.E0 (tCons (tOp (rIxL K) (tVar 5) (tVar 6)) (tCons (tVar 1) tNil))) (gName 7))
    (tSeq (tIfS (tTest (tOp rIsN (tVar 7) (tC .non))) (tRet (tC .non)) tNext)
    (tSeq (tAsg (tMeth (He.ga K "Joiner") "take" (sp_Joiner_take K) [] C8.E0 (tVar 2) (tCons (tVar 7) tNil)) (gName 8))
    (tSeq (tIfS (tTest (tOp rNe (tOp rIsN (tVar 8) (tC .non)) (tOp rLtI (tOp rAddI (tVar 6) (tC (.int 1))) (tCB (Evl.rLenS K) (tCons (tVar 5) tNil))))) (tRet (tC .non)) tNext)
    (tIfS (tTest (tOp rNotN (tVar 8) (tC .non))) (tDrop (tBM K "list" rAppend (tVar 3) (tCons (tCall (sp_letter_of K) [] C8.E0 (tCons (tVar 8) tNil)) tNil))) tNext))))))))
    (tRet (tVar 3)))))
theorem pure_law_come (T : Wd K mg) (vs : List V) (H : Hp) (Q : VK) (E : XK) (h : sp_law_come K vs H Q E) : t_law_come K { nx := fun _ H' => Q .non H', rt := Q } (start ["letters", "left", "joiner", "came", "letter", "pieces", "k", "piece", "signs"] vs) H := by
  obtain ⟨a, l, xs, Ls, rfl, ha, nal, ia, oks, hlen, L, k⟩ := h
  intro x dx hx hdx nd
  have e1 : Ex H (upd (upd H dx (.own x)) x (.ins (He.ga K "Joiner") dx [])) := (Ex.new hdx).trans (Ex.new (by rw [upd_ne nd.symm]; exact hx))
  have hx1 : (upd (upd H dx (.own x)) x (.ins (He.ga K "Joiner") dx [])) x = some (.ins (He.ga K "Joiner") dx []) := upd_same
  generalize upd (upd H dx (.own x)) x (.ins (He.ga K "Joiner") dx []) = H1 at *
  refine ⟨x, dx, rfl, hx1, fun q H2 hq b2 J2 => ⟨rfl, ?_⟩⟩
  have e2 : Ex H H2 := fun y o hy => b2 y o (fun z => by rw [List.mem_singleton.mp z, hx] at hy; cases hy) (e1 _ _ hy)
  have hq0 := fresh_back e1 hq
  refine q_asgL (xs := []) (el_lst ea_nil (Nat.zero_le _)) fun c H3 hc e3 h3 => ?_
  have e03 := e2.trans e3
  have hc0 := fresh_back e2 hc
  have L3 := L.ex e03
  have nlc : l ≠ c := L.new hc0
  have C3 : Came K H3 l x c (Ls.take 0) [] := by
    obtain ⟨dx', j1, j2⟩ := J2
    exact ⟨L3, ⟨q, (L.new hq0).symm, ne_of_none j2 hc, dx', e3 _ _ j1, e3 _ _ j2⟩, ⟨[], h3, .nil⟩⟩
  have nxl := C3.ne.1
  have nxc := C3.ne.2
  have nax : a ≠ x := ne_of_none ha hx
  have nac : a ≠ c := ne_of_none ha hc0
  have nS : ∀ s ∈ [l, x, c], a ≠ s := by simp [nal, nax, nac]
  have xl : xs.length = Ls.length := by rw [ia.length, List.length_map]
  have ha3 := e03 _ _ ha
  have ia3 := ImAll.ex e03 ia
  refine q_forLn (ev_var rfl) (sq_of ha3) (fun i σ' H' => Bt [l, x, c] H3 H' ∧ Came K H' l x c (Ls.take i) [] ∧ ∃ o4 o5 o6 o7 o8, σ' = [some (.ref a), some (.ref l), some (.ref x), some (.ref c), o4, o5, o6, o7, o8])
    (fun H4 e4 => ⟨Bt.ex e4, C3.ex e4, none, none, none, none, none, rfl⟩) (fun i σ' H' _ p => sq_of (p.1.at ha3 nS)) ?_ ?_
  · rintro i v σ' H4 hv ⟨b4, C4, o4, o5, o6, o7, o8, rfl⟩
    obtain ⟨dd, hd, iv⟩ := (ImAll.tx (C3.tx b4) _ _ ia3).get hv
    rw [List.getElem?_map, Option.map_eq_some_iff] at hd
    obtain ⟨Lt, hLt, rfl⟩ := hd
    have ok := oks Lt (List.mem_of_getElem? hLt)
    have mp := many_pos ok
    have il := (List.getElem?_eq_some_iff.mp hLt).1
    refine ⟨v, rfl, v, Lt, rfl, iv, ok, fun sg H5 hsg e5 h5 => ⟨sg, Lt.signs, rfl, sq_of h5, by omega, fun p H6 hp e6 pa => ?_⟩⟩
    obtain ⟨qs, hp6, pq⟩ := pa
    have e46 := e5.trans e6
    have C6 := C4.ex e46
    have b6 := b4.trans (Bt.ex (S := [l, x, c]) e46)
    have nS5 : ∀ y, H5 y = none → ∀ s ∈ [l, x, c], y ≠ s := fun y hy s hs => by
      obtain ⟨q, n1, n2, dx, h1, h4⟩ := (C4.ex e5).join
      obtain ⟨ys, h2, i2⟩ := (C4.ex e5).came
      obtain ⟨a1, a2, a3, h0⟩ := (C4.ex e5).left
      simp only [List.mem_cons, List.not_mem_nil, or_false] at hs
      rcases hs with rfl | rfl | rfl
      · exact (ne_of_none h0 hy).symm
      · exact (ne_of_none h1 hy).symm
      · exact (ne_of_none h2 hy).symm
    have npS := nS5 p hp
    have pl : (qs.map V.ref).length = manyM Lt.signs := by
      rw [List.length_map, paired_len pq]
      unfold piecesM
      rw [List.length_map, List.length_range]
    refine s_forR1 (n := (manyM Lt.signs : Int)) (ea_cons (ev_is (ev_len (ev_var rfl) (sq_of hp6)) (by rw [pl])) ea_nil) (by omega)
      (fun k σ' H' => Bt [l, x, c] H6 H' ∧ Came K H' l x c (if k < manyM Lt.signs then Ls.take i else Ls.take (i + 1)) (if k < manyM Lt.signs then Lt.signs.take (9 * k) else []) ∧ ∃ o6 o7 o8, σ' = [some (.ref a), some (.ref l), some (.ref x), some (.ref c), some v, some (.ref p), o6, o7, o8])
      (fun H7 e7 => ⟨Bt.ex e7, ?_, _, _, _, rfl⟩) ?_ ?_
    · rw [if_pos (by omega), if_pos (by omega), Nat.mul_zero, List.take_zero]
      exact C6.ex e7
    · rintro k σ' H7 hk ⟨b7, C7, o6, o7, o8, rfl⟩
      have hk : k < manyM Lt.signs := by omega
      rw [if_pos hk, if_pos hk] at C7
      have hp7 := b7.at hp6 npS
      have hpk : (piecesM Lt.signs)[k]? = some (pieceM Lt.signs k) := by
        unfold piecesM
        rw [List.getElem?_map, List.getElem?_range hk]
        rfl
      obtain ⟨qk, hqk, hq0, hq6⟩ := Paired.get pq hpk
      have hq7 := b7.at hq6 (nS5 qk hq0)
      have ps := piece_sig ok hk
      refine ⟨_, rfl, _, rfl, p, _, (k : Int), .ref qk, rfl, rfl, sq_of hp7, at_nat (by omega) (by rw [List.getElem?_map, Int.toNat_natCast, hqk]; rfl), _, rfl, ?_⟩
      refine ⟨qk, l, pieceM Lt.signs k, rfl, sq_of hq7, ps.1, ps.2, C7.left, fun r H8 hr b8 L8 h8 => ?_⟩
      have C8 := C7.drawn nlc.symm b8 L8
      have b08 := b7.trans (b8.mono (S' := [l, x, c]) (by simp))
      refine q_when (b := false) (et_is (et_test (ev_isN (x := .ref r) (ev_var rfl))) rfl) (fun h => nomatch h) fun _ H9 e9 => ?_
      have C9 := C8.ex e9
      have h9 := e9 _ _ h8
      have b09 := b08.trans (Bt.ex (S := [l, x, c]) e9)
      obtain ⟨q, n1, n2, J9⟩ := C9.join
      obtain ⟨dx9, hx9⟩ := J9.ins
      have stp := join_step Lt.signs k
      refine ⟨_, rfl, x, dx9, _, rfl, hx9, rfl, _, rfl, x, q, r, (manyM Lt.signs : Int) - 1 - (k : Int), (Lt.signs.drop (9 * k)).take 9, Lt.signs.take (9 * k), rfl, J9, h9, by rw [List.length_take]; omega, ps.1, by rw [List.length_take]; omega, fun hz q' H10 hq' b10 J10 => ?_, fun hz q' s' H10 hq' b10 J10 h10 => ?_⟩
      · have C10 := C9.joined b10 hq' J10
        rw [stp] at C10
        have b010 := b09.trans (b10.mono (S' := [l, x, c]) (by simp))
        have hp10 := b010.at hp6 npS
        have hk1 : k + 1 < manyM Lt.signs := by omega
        refine q_when (b := false) (et_is (et_test (ev_op (ev_isN (ev_var rfl)) (ev_op (ev_op (ev_var rfl) ev_c rv_I0) (ev_is (ev_len (ev_var rfl) (sq_of hp10)) (by rw [pl])) rv_I0) (rv_ne rfl))) (by
          rw [decide_eq_true (show (V.non = V.non) from rfl), decide_eq_true (show (k : Int) + 1 < (manyM Lt.signs : Int) by omega)]
          rfl)) (fun h => nomatch h) fun _ H11 e11 => ?_
        refine s_when (b := false) (et_is (et_test (ev_notN (x := .non) (ev_var rfl))) rfl) (fun h => nomatch h) fun _ H12 e12 => ?_
        refine ⟨b010.trans (Bt.ex (e11.trans e12)), ?_, _, _, _, rfl⟩
        rw [if_pos hk1, if_pos hk1]
        exact C10.ex (e11.trans e12)
      · have C10 := C9.joined b10 hq' J10
        rw [stp] at h10
        have b010 := b09.trans (b10.mono (S' := [l, x, c]) (by simp))
        have hp10 := b010.at hp6 npS
        have hk1 : k + 1 = manyM Lt.signs := by omega
        have hal : Lt.signs.take (9 * (k + 1)) = Lt.signs := List.take_of_length_le (by omega)
        rw [hal] at h10
        refine q_when (b := false) (et_is (et_test (ev_op (x := .bl false) (y := .bl false) (ev_is (ev_isN (ev_var rfl)) rfl) (ev_is (ev_op (ev_op (ev_var rfl) ev_c rv_I0) (ev_is (ev_len (ev_var rfl) (sq_of hp10)) (by rw [pl])) rv_I0) (by rw [decide_eq_false (show ¬ (k : Int) + 1 < (manyM Lt.signs : Int) by omega)])) (rv_ne rfl))) rfl) (fun h => nomatch h) fun _ H11 e11 => ?_
        refine s_when (b := true) (et_is (et_test (ev_notN (ev_var rfl))) rfl) (fun _ H12 e12 => ?_) (fun h => nomatch h)
        have e1012 := e11.trans e12
        have C12 := C10.ex e1012
        obtain ⟨ys, hys, iys⟩ := C12.came
        refine ⟨_, rfl, .inl ⟨rfl, ys, sq_of hys⟩, ?_⟩
        refine evi_letter_of (L := Lt) (ev_var rfl) (sq_of (e1012 _ _ h10)) ok H12 (Ex.refl H12) _ fun w H13 e13 i13 => ?_
        have C13 := C12.ex e13
        have h13 := e13 _ _ hys
        have yl : ys.length = (Ls.take i).length := by rw [iys.length, List.length_map]
        refine ⟨c, ys, w, rfl, rfl, h13, sz_lt (by rw [yl, List.length_take]; omega), ?_⟩
        have b013 := b010.trans (Bt.ex (S := [l, x, c]) (e1012.trans e13))
        refine ⟨Bt.upd b013 (.inl (by simp)), ?_, _, _, _, rfl⟩
        rw [if_neg (by omega), if_neg (by omega)]
        have tx := Tx.updL (K := K) (o := .lst (ys ++ [w])) h13
        obtain ⟨q13, m1, m2, J13⟩ := C13.join
        refine ⟨C13.left.upd nlc, ⟨q13, m1, m2, J13.bt (Bt.upd (Bt.refl [c] _) (.inl (by simp))) (by simpa using nxc) (by simpa using m2)⟩, ⟨_, upd_same, ?_⟩⟩
        rw [take_snoc hLt, List.map_append]
        exact (ImAll.tx tx _ _ (ImAll.ex e13 iys)).app (.cons (Im.tx tx _ _ i13) .nil)
    · rintro σ' H7 ⟨b7, C7, o6, o7, o8, rfl⟩
      rw [Int.toNat_natCast, if_neg (by omega), if_neg (by omega)] at C7
      exact ⟨b6.trans b7, C7, _, _, _, _, _, rfl⟩
  · rintro σ' H4 ⟨b4, C4, o4, o5, o6, o7, o8, rfl⟩
    rw [xl, List.take_length] at C4
    obtain ⟨ys, hys, iys⟩ := C4.came
    refine s_ret (ev_var rfl) fun H5 e5 => ?_
    refine k c ys H5 hc0 (Bt.cut [l] (S := [l, x, c]) ((Bt.ex e03).trans (b4.trans (Bt.ex e5))) ?_) (C4.left.ex e5) (e5 _ _ hys) (ImAll.ex e5 iys)
    simp [hx, hc0]
section
variable {P : Program} {w : World} {K : PySem.W.Frag} {mg : Str → Option Value} {base : Heap}
theorem sc_law_come : FnScope ["letters", "left", "joiner", "came", "letter", "pieces", "k", "piece", "signs"] ["letters", "left"] (defScope s_law_come) := ⟨rfl, rfl, rfl, by decide +kernel, rfl, by decide +kernel, by decide +kernel⟩
theorem dr_law_come (T : Wd K mg) (c_Joiner : Mak P w K mg base 1 "Joiner" (He.ga K "Joiner") (sp_Joiner_init K) []) (c_letter_signs : Cal P w K mg base 1 "letter_signs" (sp_letter_signs K) []) (c_pieces_of : Cal P w K mg base 1 "pieces_of" (sp_pieces_of K) []) (c_law_sent : Cal P w K mg base 6 "_law_sent" (sp_law_sent K) []) (c_Joiner_take : Met P w K mg base 2 (He.ga K "Joiner") "take" (sp_Joiner_take K) []) (c_letter_of : Cal P w K mg base 3 "letter_of" (sp_letter_of K) []) {f : Addr} {cdv : Value} {A : Around} {outer : List Env} {s : Shared} {H : Hp} {E : XK} (hr : Room 6 (A.deeper (envOfC "_law_come" (defScope s_law_come) s.heap.objs.size f cdv))) :
    PSs (cxOf CX0 P w K mg base ["letters", "left", "joiner", "came", "letter", "pieces", "k", "piece", "signs"] "_law_come" (defScope s_law_come) f cdv A outer s H E).nox (defBody s_law_come) (t_law_come K) := by
  have nd := sc_law_come.nd
  exact (pss_cons (ps_set (i := 2) nd rfl (by first | exact Or.inl rfl | exact Or.inr rfl) (pe_mk0 c_Joiner hr (by decide) rfl))
    (pss_cons (ps_set (i := 3) nd rfl (by first | exact Or.inl rfl | exact Or.inr rfl) (pe_lst pa_nil))
    (pss_cons (ps_for PassesOwn.never rfl (pi_list (pv 0)) (pg_name (i := 4) nd rfl (by first | exact Or.inl rfl | exact Or.inr rfl))
    (pss_cons (ps_set (i := 5) nd rfl (by first | exact Or.inl rfl | exact Or.inr rfl) (pe_c c_pieces_of hr (by decide) rfl (pa_cons (pe_c c_letter_signs hr (by decide) rfl (pa_cons (pv 4) pa_nil)) pa_nil)))
    (pss_one (ps_for PassesOwn.never rfl (pi_range1 (by rfl) (T.free 101) (pa_cons (pe_callB call_len_seq (by rfl) (T.free 97) (by decide +kernel) (pa_cons (pv 5) pa_nil)) pa_nil)) (pg_name (i := 6) nd rfl (by first | exact Or.inl rfl | exact Or.inr rfl))
    (pss_cons (ps_set (i := 7) nd rfl (by first | exact Or.inl rfl | exact Or.inr rfl) (pe_c c_law_sent hr (by decide) rfl (pa_cons (pe_ix ix_list (pv 5) (pv 6) (fun _ _ => rfl)) (pa_cons (pv 1) pa_nil))))
    (pss_cons (ps_if (pt_cmpR op_isN1 (pv 7) pe_non (nomark _)) (pss_one (ps_ret pe_non)) pss_nil)
    (pss_cons (ps_set (i := 8) nd rfl (by first | exact Or.inl rfl | exact Or.inr rfl) (pe_mt c_Joiner_take hr (by decide) (pv 2) (pa_cons (pv 7) pa_nil)))
    (pss_cons (ps_if (pt_cmpR op_ne (pe_cmpR op_isN1 (pv 8) pe_non (nomark _)) (pe_cmpR op_lt (pe_op op_add (pv 6) pe_int) (pe_callB call_len_seq (by rfl) (T.free 97) (by decide +kernel) (pa_cons (pv 5) pa_nil)) (nomark _)) (nomark _)) (pss_one (ps_ret pe_non)) pss_nil)
    (pss_one (ps_if (pt_cmpR op_notN1 (pv 8) pe_non (nomark _)) (pss_one (ps_expr (pe_bm PySem.F.plainAttrs_list PySem.F.slot_list_append PySem.F.type_list_append mt_append (pv 3) (pa_cons (pe_c c_letter_of hr (by decide) rfl (pa_cons (pv 8) pa_nil)) pa_nil)))) pss_nil))))))))))
    (pss_one (ps_ret (pv 3))))))
theorem ok_law_come (T : Wd K mg) (c_Joiner : Mak P w K mg base 1 "Joiner" (He.ga K "Joiner") (sp_Joiner_init K) []) (c_letter_signs : Cal P w K mg base 1 "letter_signs" (sp_letter_signs K) []) (c_pieces_of : Cal P w K mg base 1 "pieces_of" (sp_pieces_of K) []) (c_law_sent : Cal P w K mg base 6 "_law_sent" (sp_law_sent K) []) (c_Joiner_take : Met P w K mg base 2 (He.ga K "Joiner") "take" (sp_Joiner_take K) []) (c_letter_of : Cal P w K mg base 3 "letter_of" (sp_letter_of K) []) {f : Addr} {fd : FuncData} (F : FunD K ds_law_come.name ds_law_come.qual ds_law_come.params ds_law_come.body ds_law_come.scope [] [] f fd) : FnOk P w K mg base CX0 7 f fd ["letters", "left"] (sp_law_come K) := by
  refine FunD.ok F sc_law_come (fun vs H Q E h => ?_) (fun cdv A outer s H vs Q E hr h => ⟨t_law_come K, PSs.nox (dr_law_come T c_Joiner c_letter_signs c_pieces_of c_law_sent c_Joiner_take c_letter_of hr), pure_law_come T vs H Q E h⟩)
  obtain ⟨_, _, _, _, e, _⟩ := h
  rw [e]
  all_goals rfl
end
end

end K85
end
section
set_option maxHeartbeats 400000
namespace K85
open PySem PySem.Spec PyProof.Rows
open L2 hiding CX0 E0 pass0
open C8 Evl
/-! ### tactics -/
local macro_rules | `(tactic| walk_at "side") => `(tactic| first | omega | assumption | rfl | decide)
local macro_rules | `(tactic| walk_at "at") => `(tactic| first | (refine at_int ?_ ?_ <;> first | omega | (simp; omega)) | assumption)
local macro_rules | `(tactic| walk_at "rv") => `(tactic| first
  | with_reducible exact rv_I0
  | ((with_reducible apply rv_eq); rfl)
  | ((with_reducible apply rv_ne); rfl)
  | ((with_reducible apply rv_mod); first | omega | decide)
  | ((with_reducible apply rv_mul); omega)
  | ((with_reducible apply rv_div); omega)
  | ((with_reducible apply rv_ixL); · assumption
     · walk_at "at")
  | ((with_reducible apply rv_ixT); · assumption
     · walk_at "at"))
local macro_rules | `(tactic| walk_at "ev") => `(tactic| first
  | ((with_reducible apply ev_var); rfl)
  | with_reducible exact ev_c
  | ((with_reducible apply ev_isN); walk_at "ev")
  | ((with_reducible apply ev_notN); walk_at "ev")
  | ((with_reducible apply ev_op); · walk_at "ev"
     · walk_at "ev"
     · walk_at "rv")
  | ((with_reducible apply ev_un); · walk_at "ev"
     · with_reducible exact ru_neg)
  | ((with_reducible apply ev_chain); · walk_at "ev"
     · walk_at "ev"
     · walk_at "rv"
     · intro _; walk_at "ev"
     · intro _; walk_at "rv")
  | ((with_reducible apply ev_len); · walk_at "ev"
     · assumption)
  | ((with_reducible apply ev_lenT); · walk_at "ev"
     · assumption)
  | ((with_reducible apply ev_andV); · walk_at "ev"
     · intro _; walk_at "ev")
  | with_reducible assumption)
local macro_rules | `(tactic| walk_at "evt") => `(tactic| first
  | ((with_reducible apply et_or); · walk_at "evt"
     · intro _; walk_at "evt")
  | ((with_reducible apply et_and); · walk_at "evt"
     · intro _; walk_at "evt")
  | ((with_reducible apply et_not); walk_at "evt")
  | ((with_reducible apply et_test); walk_at "ev")
  | ((with_reducible apply et_B); walk_at "ev")
  | with_reducible assumption)
local macro_rules | `(tactic| walk_at "bool") => `(tactic| first | rfl | (simp; done) | (simp; omega) | (simp; intros; omega) | grind)
/-! ### two maps alike -/
def Shp (n : Nat) (d : PyData) : Prop := d.canLay0 = true ∧ d.depth ≤ n
theorem Shp.ok {n : Nat} {d : PyData} (h : Shp n d) (hn : n ≤ 64) : SeqAt.shaped d = true := by
  unfold SeqAt.shaped
  rw [h.1, decide_eq_true (Nat.le_trans h.2 hn)]
  rfl
theorem shp_all {n : Nat} : ∀ {ds : List PyData}, (∀ d ∈ ds, Shp n d) → PyData.canLayAll0 ds = true ∧ PyData.depthAll ds ≤ n
  | [], _ => ⟨rfl, Nat.zero_le _⟩
  | d :: ds, h => by
    have h1 := h d (by simp)
    have h2 := shp_all (ds := ds) fun e he => h e (by simp [he])
    rw [PyData.canLayAll0, PyData.depthAll, h1.1, h2.1]
    exact ⟨rfl, Nat.max_le.mpr ⟨h1.2, h2.2⟩⟩
theorem shp_tup {n : Nat} {ds : List PyData} (h : ∀ d ∈ ds, Shp n d) : Shp (n + 1) (.tuple ds) := by
  have q := shp_all h
  unfold Shp
  rw [PyData.canLay0, PyData.depth]
  exact ⟨q.1, Nat.succ_le_succ q.2⟩
theorem shp_lst {n : Nat} {ds : List PyData} (h : ∀ d ∈ ds, Shp n d) : Shp (n + 1) (.list ds) := by
  have q := shp_all h
  unfold Shp
  rw [PyData.canLay0, PyData.depth]
  exact ⟨q.1, Nat.succ_le_succ q.2⟩
theorem shp_int (n : Nat) (i : Int) : Shp n (.int i) := ⟨rfl, Nat.zero_le _⟩
theorem shp_str (n : Nat) {s : Str} (h : PyData.strOk s = true) : Shp n (.str s) := by
  unfold Shp
  rw [PyData.canLay0, PyData.depth]
  exact ⟨h, Nat.zero_le _⟩
theorem shp_ints (n : Nat) (ns : List Int) : Shp (n + 1) (.tuple (ns.map PyData.int)) := shp_tup fun d hd => by
  obtain ⟨i, _, rfl⟩ := List.mem_map.mp hd
  exact shp_int _ _
theorem name_str {s : Str} (h : NameOk s) : PyData.strOk s = true := by
  unfold PyData.strOk
  rw [Array.all_eq_true']
  intro c hc
  have := h.az c (by simpa using hc)
  exact decide_eq_true (by omega)
theorem shp_news {N : News} (h : N.Ok) : Shp 4 N.data := shp_tup fun d hd => by
  simp only [List.mem_cons, List.not_mem_nil, or_false] at hd
  rcases hd with rfl | rfl | rfl | rfl
  · exact shp_int _ _
  · exact shp_int _ _
  · refine shp_tup fun d hd => ?_
    obtain ⟨t, _, rfl⟩ := List.mem_map.mp hd
    refine shp_tup fun d hd => ?_
    simp only [List.mem_cons, List.not_mem_nil, or_false] at hd
    rcases hd with rfl | rfl | rfl
    · exact shp_int _ _
    · exact shp_int _ _
    · exact shp_ints 0 [_, _]
  · refine shp_tup fun d hd => ?_
    obtain ⟨s, hs, rfl⟩ := List.mem_map.mp hd
    exact shp_str _ (name_str (h.names.ok s hs))
theorem shp_way (ws : List Wire) (one other : Int) : Shp 4 (wayD ws one other) := by
  unfold wayD
  split
  · refine shp_tup fun d hd => ?_
    simp only [List.mem_cons, List.not_mem_nil, or_false] at hd
    rcases hd with rfl | rfl | rfl
    · exact shp_str _ (by decide +kernel)
    · exact shp_ints 2 _
    · refine shp_lst fun d hd => ?_
      obtain ⟨p, _, rfl⟩ := List.mem_map.mp hd
      exact shp_ints 1 [_, _]
  · refine shp_tup fun d hd => ?_
    simp only [List.mem_cons, List.not_mem_nil, or_false] at hd
    rcases hd with rfl | rfl
    · exact shp_str _ (by decide +kernel)
    · exact shp_ints 2 _
section
variable {K : PySem.W.Frag} {mg : Str → Option Value}
section
variable {σ : L2.St} {H : Hp} {p d : Addr} {kvs : List (Key × V)} {ks : List Int} {f : MF} {te te' : TE} {ds : List PyData}
theorem MapAt.news_shp (M : MapAt K H p d kvs ks f) : SeqAt.shaped (.list ((newsM f).map News.data)) = true := Shp.ok (n := 5) (shp_lst fun d hd => by
  obtain ⟨N, hN, rfl⟩ := List.mem_map.mp hd
  unfold newsM at hN
  obtain ⟨i, _, e⟩ := List.mem_filterMap.mp hN
  exact shp_news (M.yes _ N e).2.1) (by decide)
theorem wires_shp (ws : List Wire) : SeqAt.shaped (.list (ws.map wireD)) = true := Shp.ok (n := 2) (shp_lst fun d hd => by
  obtain ⟨w, _, rfl⟩ := List.mem_map.mp hd
  exact shp_ints 0 [_, _, _]) (by decide)
theorem eil_news (M : MapAt K H p d kvs ks f) (h : Ev te σ H (.ref p)) : EvIL K (tMeth (He.ga K "Map") "news" (sp_Map_news K) [] E0 te tNil) σ H ((newsM f).map News.data) := fun H1 e Q q => h H1 e _ fun H2 e2 => by
  have M2 := M.ex (e.trans e2)
  obtain ⟨dx, hp⟩ := M2.ins
  exact ⟨p, dx, _, rfl, hp, rfl, p, d, kvs, ks, f, rfl, M2, fun l xs H3 hl e3 h3 i3 => q l xs H3 (fresh_back e2 hl) (e2.trans e3) h3 i3⟩
theorem eil_wires (M : MapAt K H p d kvs ks f) (h : Ev te σ H (.ref p)) : EvIL K (tMeth (He.ga K "Map") "wires" (sp_Map_wires K) [] E0 te tNil) σ H ((wiresM f).map wireD) := fun H1 e Q q => h H1 e _ fun H2 e2 => by
  have M2 := M.ex (e.trans e2)
  obtain ⟨dx, hp⟩ := M2.ins
  exact ⟨p, dx, _, rfl, hp, rfl, p, d, kvs, ks, f, rfl, M2, fun l xs H3 hl e3 h3 i3 => q l xs H3 (fresh_back e2 hl) (e2.trans e3) h3 i3⟩
theorem ev_holder (M : MapAt K H p d kvs ks f) (h : Ev te σ H (.ref p)) {name : Str} (h' : Ev te' σ H (.str name)) : Ev (tMeth (He.ga K "Map") "holder" (sp_Map_holder K) [] E0 te (tCons te' tNil)) σ H (optV (holderM f name)) := fun H1 e Q q => h H1 e _ fun H2 e2 => by
  have M2 := M.ex (e.trans e2)
  obtain ⟨dx, hp⟩ := M2.ins
  exact ⟨p, dx, _, rfl, hp, rfl, h' H2 (e.trans e2) _ fun H3 e3 => ⟨p, d, kvs, ks, f, name, rfl, M2.ex e3, fun H4 e4 => q H4 ((e2.trans e3).trans e4)⟩⟩
/-- two new lists of the same are not unlike -/
theorem ev_neNew (h1 : EvIL K te σ H ds) (h2 : ∀ H1, Ex H H1 → EvIL K te' σ H1 ds) (sh : SeqAt.shaped (.list ds) = true) : Ev (tOp (rNeD K) te te') σ H (.bl false) := fun H1 e Q q =>
  h1 H1 e _ fun p xs H2 hp e2 hx i2 => h2 H2 (e.trans e2) H2 (Ex.refl H2) _ fun p' ys H3 hp' e3 hy i3 => ⟨.list ds, .list ds, .lst (sq_of (e3 _ _ hx)) (ImAll.dp _ _ (ImAll.ex e3 i2)), .lst (sq_of hy) (ImAll.dp _ _ i3), sh, sh, by
    rw [SeqAt.eqv_refl _ (SeqAt.canLay_of_shaped sh)]
    exact q H3 (e2.trans e3)⟩
end
def sp_law_alike (K : PySem.W.Frag) : Sp := fun vs H Q _ => ∃ (p1 d1 : Addr) (kvs1 : List (Key × V)) (ks1 : List Int) (p2 d2 : Addr) (kvs2 : List (Key × V)) (ks2 : List Int) (f : MF), vs = [.ref p1, .ref p2] ∧ MapAt K H p1 d1 kvs1 ks1 f ∧ MapAt K H p2 d2 kvs2 ks2 f ∧ RetV (.bl true) H Q
/-- _law_alike -/
def t_law_alike (K : PySem.W.Frag) : TS :=
    (tSeq (tIfS (tOr (tTest (tOp (rNeD K) (tMeth (He.ga K "Map") "news" (sp_Map_news K) [] C8.E0 (tVar 0) tNil) (tMeth (He.ga K "Map") "news" (sp_Map_news K) [] C8.E0 (tVar 1) tNil))) (tTest (tOp (rNeD K) (tMeth (He.ga K "Map") "wires" (sp_Map_wires K) [] C8.E0 (tVar 0) tNil) (tMeth (He.ga K "Map") "wires" (sp_Map_wires K) [] C8.E0 (tVar 1) tNil)))) (tRet (tC (.bl false))) tNext)
    (tSeq (tFor (iList K (tLst (tCons (tC (.str "a")) (tCons (tC (.str "k")) (tCons (tC (.str "zz")) (tCons (tC (.str "abcd")) (tCons (tC (.str "none")) tNil))))))) (gName 2)
    (tIfS (tTest (tOp rNe (tMeth (He.ga K "Map") "holder" (sp_Map_holder K) [] C8.E0 (tVar 0) (tCons (tVar 2) tNil)) (tMeth (He.ga K "Map") "holder" (sp_Map_holder K) [] C8.E0 (tVar 1) (tCons (tVar 2) tNil)))) (tRet (tC (.bl false))) tNext))
    (tSeq (tFor (iRng1 (tCons (tC (.int 6)) tNil)) (gName 3)
    (tFor (iRng1 (tCons (tC (.int 6)) tNil)) (gName 4)
    (tSeq (tAsg (tCall (sp_way_of K) [] C8.E0 (tCons (tVar 0) (tCons (tVar 3) (tCons (tVar 4) tNil)))) (gName 5))
    (tIfS (tOr (tTest (tOp (rNeD K) (tVar 5) (tCall (sp_way_of K) [] C8.E0 (tCons (tVar 1) (tCons (tVar 3) (tCons (tVar 4) tNil)))))) (tNot (tB (tCall (sp_way_judged K) [] C8.E0 (tCons (tVar 1) (tCons (tVar 3) (tCons (tVar 4) (tCons (tVar 5) tNil)))))))) (tRet (tC (.bl false))) tNext))))
    (tRet (tC (.bl true))))))
theorem scal_opt (o : Option Int) : scal (optV o) (optV o) = true := by cases o <;> rfl
theorem pure_law_alike (T : Wd K mg) (vs : List V) (H : Hp) (Q : VK) (E : XK) (h : sp_law_alike K vs H Q E) : t_law_alike K { nx := fun _ H' => Q .non H', rt := Q } (start ["one", "other", "name", "start", "goal", "answer"] vs) H := by
  obtain ⟨p1, d1, kvs1, ks1, p2, d2, kvs2, ks2, f, rfl, M1, M2, k⟩ := h
  refine q_when (b := false) (et_or (a := false) (b := false) (et_test (ev_neNew (eil_news M1 (ev_var rfl)) (fun H1 e1 => eil_news (M2.ex e1) (ev_var rfl)) M1.news_shp)) (fun _ => et_test (ev_neNew (eil_wires M1 (ev_var rfl)) (fun H1 e1 => eil_wires (M2.ex e1) (ev_var rfl)) (wires_shp _)))) (fun h => nomatch h) fun _ H1 e1 => ?_
  have M1 := M1.ex e1
  have M2 := M2.ex e1
  refine q_forNLn (xs := (["a", "k", "zz", "abcd", "none"] : List Str).map V.str) (el_lst (ea_cons ev_c (ea_cons ev_c (ea_cons ev_c (ea_cons ev_c (ea_cons ev_c ea_nil))))) (Nat.le_of_ble_eq_true rfl)) (fun a i σ' H' => Ex H1 H' ∧ H' a = some (.lst ((["a", "k", "zz", "abcd", "none"] : List Str).map V.str)) ∧ ∃ o, σ' = [some (.ref p1), some (.ref p2), o, none, none, none])
    (fun a H2 ha e2 h2 => ⟨e2, h2, none, rfl⟩) (fun a i σ' H' _ q => sq_of q.2.1) ?_ ?_
  · rintro a i x σ' H' hx ⟨e, ha, o, rfl⟩
    rw [List.getElem?_map, Option.map_eq_some_iff] at hx
    obtain ⟨s, hs, rfl⟩ := hx
    refine s_when (b := false) (et_is (et_test (ev_op (ev_holder (M1.ex e) (ev_var rfl) (ev_var rfl)) (ev_holder (M2.ex e) (ev_var rfl) (ev_var rfl)) (rv_ne (scal_opt _)))) (by simp)) (fun h => nomatch h) fun _ H3 e3 => ⟨e.trans e3, e3 _ _ ha, _, rfl⟩
  · rintro a σ' H' ⟨e, ha, o, rfl⟩
    have M1 := M1.ex e
    have M2 := M2.ex e
    have e1' := e1.trans e
    refine q_forR1 (n := 6) (ea_cons ev_c ea_nil) (by decide) (fun i σ'' H'' => Ex H' H'' ∧ ∃ o3 o4 o5, σ'' = [some (.ref p1), some (.ref p2), o, o3, o4, o5]) (fun H2 e2 => ⟨e2, none, none, none, rfl⟩) ?_ ?_
    · rintro i σ'' H2 hi ⟨e2, o3, o4, o5, rfl⟩
      refine s_forR1 (n := 6) (ea_cons ev_c ea_nil) (by decide) (fun j σ'' H'' => Ex H' H'' ∧ ∃ o4 o5, σ'' = [some (.ref p1), some (.ref p2), o, some (.int (i : Int)), o4, o5]) (fun H3 e3 => ⟨e2.trans e3, _, _, rfl⟩) ?_ ?_
      · rintro j σ'' H3 hj ⟨e3, o4, o5, rfl⟩
        refine ⟨_, rfl, _, rfl, _, rfl, p1, d1, kvs1, ks1, f, (i : Int), (j : Int), rfl, M1.ex e3, by omega, by omega, by omega, by omega, fun v H4 e4 dv => ?_⟩
        have e34 := e3.trans e4
        have sh := (shp_way (wiresM f) (i : Int) (j : Int)).ok (by decide)
        dsimp only
        refine s_when (b := false) (et_or (a := false) (b := false) (et_test fun H5 e5 Q5 q5 => ?_) (fun _ => et_not (a := true) (et_B fun H5 e5 Q5 q5 => ?_))) (fun h => nomatch h) fun _ H5 e5 => ⟨e34.trans e5, _, _, rfl⟩
        · refine ⟨_, rfl, _, rfl, _, rfl, _, rfl, p2, d2, kvs2, ks2, f, (i : Int), (j : Int), rfl, M2.ex (e34.trans e5), by omega, by omega, by omega, by omega, fun w H6 e6 dw => ⟨_, _, Dp.exM (e5.trans e6) _ _ dv, dw, sh, sh, ?_⟩⟩
          rw [SeqAt.eqv_refl _ (SeqAt.canLay_of_shaped sh)]
          exact q5 H6 e6
        · exact ⟨_, rfl, _, rfl, _, rfl, _, rfl, p2, d2, kvs2, ks2, f, (i : Int), (j : Int), v, rfl, M2.ex (e34.trans e5), by omega, by omega, by omega, by omega, Dp.exM e5 _ _ dv, fun H6 e6 => q5 H6 e6⟩
      · rintro σ'' H3 ⟨e3, o4, o5, rfl⟩
        exact ⟨e3, _, _, _, rfl⟩
    · rintro σ'' H2 ⟨e2, o3, o4, o5, rfl⟩
      exact s_ret ev_c fun H3 e3 => k H3 (e1'.trans (e2.trans e3))
section
variable {P : Program} {w : World} {K : PySem.W.Frag} {mg : Str → Option Value} {base : Heap}
theorem sc_law_alike : FnScope ["one", "other", "name", "start", "goal", "answer"] ["one", "other"] (defScope s_law_alike) := ⟨rfl, rfl, rfl, by decide +kernel, rfl, by decide +kernel, by decide +kernel⟩
theorem dr_law_alike (T : Wd K mg) (c_Map_news : Met P w K mg base 1 (He.ga K "Map") "news" (sp_Map_news K) []) (c_Map_wires : Met P w K mg base 2 (He.ga K "Map") "wires" (sp_Map_wires K) []) (c_Map_holder : Met P w K mg base 1 (He.ga K "Map") "holder" (sp_Map_holder K) []) (c_way_of : Cal P w K mg base 3 "way_of" (sp_way_of K) []) (c_way_judged : Cal P w K mg base 4 "way_judged" (sp_way_judged K) []) {f : Addr} {cdv : Value} {A : Around} {outer : List Env} {s : Shared} {H : Hp} {E : XK} (hr : Room 4 (A.deeper (envOfC "_law_alike" (defScope s_law_alike) s.heap.objs.size f cdv))) :
    PSs (cxOf CX0 P w K mg base ["one", "other", "name", "start", "goal", "answer"] "_law_alike" (defScope s_law_alike) f cdv A outer s H E).nox (defBody s_law_alike) (t_law_alike K) := by
  have nd := sc_law_alike.nd
  exact (pss_cons (ps_if (PW.pt (pw_or (pt_cmpR (op_neD hr.units) (pe_mt0 c_Map_news hr (by decide) (pv 0)) (pe_mt0 c_Map_news hr (by decide) (pv 1)) (nomark _)) (pw_or1 (pt_cmpR (op_neD hr.units) (pe_mt0 c_Map_wires hr (by decide) (pv 0)) (pe_mt0 c_Map_wires hr (by decide) (pv 1)) (nomark _))))) (pss_one (ps_ret pe_bl)) pss_nil)
    (pss_cons (ps_for PassesOwn.never rfl (pi_list (pe_lst (pa_cons pe_str (pa_cons pe_str (pa_cons pe_str (pa_cons pe_str (pa_cons pe_str pa_nil))))))) (pg_name (i := 2) nd rfl (by first | exact Or.inl rfl | exact Or.inr rfl))
    (pss_one (ps_if (pt_cmpR op_ne (pe_mt c_Map_holder hr (by decide) (pv 0) (pa_cons (pv 2) pa_nil)) (pe_mt c_Map_holder hr (by decide) (pv 1) (pa_cons (pv 2) pa_nil)) (nomark _)) (pss_one (ps_ret pe_bl)) pss_nil)))
    (pss_cons (ps_for PassesOwn.never rfl (pi_range1 (by rfl) (T.free 101) (pa_cons pe_int pa_nil)) (pg_name (i := 3) nd rfl (by first | exact Or.inl rfl | exact Or.inr rfl))
    (pss_one (ps_for PassesOwn.never rfl (pi_range1 (by rfl) (T.free 101) (pa_cons pe_int pa_nil)) (pg_name (i := 4) nd rfl (by first | exact Or.inl rfl | exact Or.inr rfl))
    (pss_cons (ps_set (i := 5) nd rfl (by first | exact Or.inl rfl | exact Or.inr rfl) (pe_c c_way_of hr (by decide) rfl (pa_cons (pv 0) (pa_cons (pv 3) (pa_cons (pv 4) pa_nil)))))
    (pss_one (ps_if (PW.pt (pw_or (pt_cmpR (op_neD hr.units) (pv 5) (pe_c c_way_of hr (by decide) rfl (pa_cons (pv 1) (pa_cons (pv 3) (pa_cons (pv 4) pa_nil)))) (nomark _)) (pw_or1 (pt_not (pt_val (pe_c c_way_judged hr (by decide) rfl (pa_cons (pv 1) (pa_cons (pv 3) (pa_cons (pv 4) (pa_cons (pv 5) pa_nil)))))))))) (pss_one (ps_ret pe_bl)) pss_nil))))))
    (pss_one (ps_ret pe_bl)))))
theorem ok_law_alike (T : Wd K mg) (c_Map_news : Met P w K mg base 1 (He.ga K "Map") "news" (sp_Map_news K) []) (c_Map_wires : Met P w K mg base 2 (He.ga K "Map") "wires" (sp_Map_wires K) []) (c_Map_holder : Met P w K mg base 1 (He.ga K "Map") "holder" (sp_Map_holder K) []) (c_way_of : Cal P w K mg base 3 "way_of" (sp_way_of K) []) (c_way_judged : Cal P w K mg base 4 "way_judged" (sp_way_judged K) []) {f : Addr} {fd : FuncData} (F : FunD K ds_law_alike.name ds_law_alike.qual ds_law_alike.params ds_law_alike.body ds_law_alike.scope [] [] f fd) : FnOk P w K mg base CX0 5 f fd ["one", "other"] (sp_law_alike K) := by
  refine FunD.ok F sc_law_alike (fun vs H Q E h => ?_) (fun cdv A outer s H vs Q E hr h => ⟨t_law_alike K, PSs.nox (dr_law_alike T c_Map_news c_Map_wires c_Map_holder c_way_of c_way_judged hr), pure_law_alike T vs H Q E h⟩)
  obtain ⟨_, _, _, _, _, _, _, _, _, e, _⟩ := h
  rw [e]
  all_goals rfl
end
end

end K85
end
section
set_option maxHeartbeats 400000
namespace K85
open PySem PySem.Spec PyProof.Rows
open L2 hiding CX0 E0 pass0
open C8 Evl
/-! ### tactics -/
local macro_rules | `(tactic| walk_at "side") => `(tactic| first | omega | assumption | rfl | decide)
local macro_rules | `(tactic| walk_at "at") => `(tactic| first | (refine at_int ?_ ?_ <;> first | omega | (simp; omega)) | assumption)
local macro_rules | `(tactic| walk_at "rv") => `(tactic| first
  | with_reducible exact rv_I0
  | ((with_reducible apply rv_eq); rfl)
  | ((with_reducible apply rv_ne); rfl)
  | ((with_reducible apply rv_mod); first | omega | decide)
  | ((with_reducible apply rv_mul); omega)
  | ((with_reducible apply rv_div); omega)
  | ((with_reducible apply rv_ixL); · assumption
     · walk_at "at")
  | ((with_reducible apply rv_ixT); · assumption
     · walk_at "at"))
local macro_rules | `(tactic| walk_at "ev") => `(tactic| first
  | ((with_reducible apply ev_var); rfl)
  | with_reducible exact ev_c
  | ((with_reducible apply ev_isN); walk_at "ev")
  | ((with_reducible apply ev_notN); walk_at "ev")
  | ((with_reducible apply ev_op); · walk_at "ev"
     · walk_at "ev"
     · walk_at "rv")
  | ((with_reducible apply ev_un); · walk_at "ev"
     · with_reducible exact ru_neg)
  | ((with_reducible apply ev_chain); · walk_at "ev"
     · walk_at "ev"
     · walk_at "rv"
     · intro _; walk_at "ev"
     · intro _; walk_at "rv")
  | ((with_reducible apply ev_len); · walk_at "ev"
     · assumption)
  | ((with_reducible apply ev_lenT); · walk_at "ev"
     · assumption)
  | ((with_reducible apply ev_andV); · walk_at "ev"
     · intro _; walk_at "ev")
  | with_reducible assumption)
local macro_rules | `(tactic| walk_at "evt") => `(tactic| first
  | ((with_reducible apply et_or); · walk_at "evt"
     · intro _; walk_at "evt")
  | ((with_reducible apply et_and); · walk_at "evt"
     · intro _; walk_at "evt")
  | ((with_reducible apply et_not); walk_at "evt")
  | ((with_reducible apply et_test); walk_at "ev")
  | ((with_reducible apply et_B); walk_at "ev")
  | with_reducible assumption)
local macro_rules | `(tactic| walk_at "bool") => `(tactic| first | rfl | (simp; done) | (simp; omega) | (simp; intros; omega) | grind)
/-! ### what a map has heard -/
def Best (L : List News) (h : Int) : Option News → Prop
  | none => ∀ N ∈ L, N.house ≠ h
  | some N => N ∈ L ∧ N.house = h ∧ ∀ M ∈ L, M.house = h → M.number ≤ N.number
theorem best_step {L : List News} {f : MF} (h : ∀ i, Best L i (f i)) (N : News) : ∀ i, Best (L ++ [N]) i (hearF f N i) := fun i => by
  have b := h i
  unfold hearF
  by_cases hi : i = N.house
  · rw [if_pos hi]
    cases e : f i with
    | none =>
      rw [e] at b
      refine ⟨by simp, hi.symm, fun M hM hh => ?_⟩
      rcases List.mem_append.mp hM with hM | hM
      · exact absurd hh (b M hM)
      · rw [List.mem_singleton.mp hM]
        exact Int.le_refl _
    | some O =>
      rw [e] at b
      obtain ⟨b1, b2, b3⟩ := b
      dsimp only
      by_cases c : N.number ≤ O.number
      · rw [if_pos c]
        refine ⟨by simp [b1], b2, fun M hM hh => ?_⟩
        rcases List.mem_append.mp hM with hM | hM
        · exact b3 M hM hh
        · rw [List.mem_singleton.mp hM]
          exact c
      · rw [if_neg c]
        refine ⟨by simp, hi.symm, fun M hM hh => ?_⟩
        rcases List.mem_append.mp hM with hM | hM
        · have := b3 M hM hh
          omega
        · rw [List.mem_singleton.mp hM]
          exact Int.le_refl _
  · rw [if_neg hi]
    cases e : f i with
    | none =>
      rw [e] at b
      intro M hM
      rcases List.mem_append.mp hM with hM | hM
      · exact b M hM
      · rw [List.mem_singleton.mp hM]
        exact fun z => hi z.symm
    | some O =>
      rw [e] at b
      obtain ⟨b1, b2, b3⟩ := b
      refine ⟨by simp [b1], b2, fun M hM hh => ?_⟩
      rcases List.mem_append.mp hM with hM | hM
      · exact b3 M hM hh
      · rw [List.mem_singleton.mp hM] at hh
        exact absurd hh.symm hi
def heard (L : List News) : MF := L.foldl hearF fun _ => none
theorem heard_snoc (L : List News) (N : News) : heard (L ++ [N]) = hearF (heard L) N := by
  unfold heard
  rw [List.foldl_append]
  rfl
theorem heard_best : ∀ (n : Nat) (L : List News), L.length = n → ∀ i, Best L i (heard L i)
  | 0, L, h => by
    have : L = [] := List.length_eq_zero_iff.mp h
    subst this
    exact fun i N hN => by cases hN
  | n + 1, L, h => by
    have hne : L ≠ [] := fun z => by rw [z] at h; cases h
    rw [← List.dropLast_concat_getLast hne, heard_snoc]
    exact best_step (heard_best n L.dropLast (by rw [List.length_dropLast, h]; rfl)) _
theorem heard_same {L L' : List News} (m : ∀ N, N ∈ L ↔ N ∈ L') (inj : ∀ M ∈ L, ∀ N ∈ L, M.house = N.house → M.number = N.number → M = N) : heard L = heard L' := by
  funext i
  have b := heard_best _ L rfl i
  have c := heard_best _ L' rfl i
  cases e : heard L i with
  | none =>
    rw [e] at b
    cases e' : heard L' i with
    | none => rfl
    | some N =>
      rw [e'] at c
      exact absurd c.2.1 (b N ((m N).mpr c.1))
  | some M =>
    rw [e] at b
    obtain ⟨b1, b2, b3⟩ := b
    cases e' : heard L' i with
    | none =>
      rw [e'] at c
      exact absurd b2 (c M ((m M).mp b1))
    | some N =>
      rw [e'] at c
      obtain ⟨c1, c2, c3⟩ := c
      have h1 := b3 N ((m N).mpr c1) c2
      have h2 := c3 M ((m M).mp b1) b2
      rw [inj M b1 N ((m N).mpr c1) (b2.trans c2.symm) (by omega)]
/-! the dict of the first news of each house and number -/
def keyN (N : News) : List Key := [Sum.inl N.house, Sum.inl N.number]
structure Firsts (K : PySem.W.Frag) (H : Hp) (kvs : List (List Key × V)) (Ns : List News) : Prop where
  at_ : Paired (fun kv N => kv.1 = keyN N ∧ Im K H kv.2 N.data ∧ N.Ok) kvs Ns
  nd : (Ns.map keyN).Nodup
theorem Firsts.tx {K : PySem.W.Frag} {H H' : Hp} {kvs : List (List Key × V)} {Ns : List News} (F : Firsts K H kvs Ns) (t : Tx K H H') : Firsts K H' kvs Ns := ⟨Paired.mapP F.at_ fun _ _ h => ⟨h.1, Im.tx t _ _ h.2.1, h.2.2⟩, F.nd⟩
theorem Firsts.keys {K : PySem.W.Frag} {H : Hp} {kvs : List (List Key × V)} {Ns : List News} (F : Firsts K H kvs Ns) : kvs.map (·.1) = Ns.map keyN := by
  have : ∀ {kvs : List (List Key × V)} {Ns : List News}, Paired (fun kv N => kv.1 = keyN N ∧ Im K H kv.2 N.data ∧ N.Ok) kvs Ns → kvs.map (·.1) = Ns.map keyN := fun h => by
    induction h with
    | nil => rfl
    | cons h _ ih => rw [List.map_cons, List.map_cons, h.1, ih]
  exact this F.at_
theorem Firsts.len {K : PySem.W.Frag} {H : Hp} {kvs : List (List Key × V)} {Ns : List News} (F : Firsts K H kvs Ns) : kvs.length = Ns.length := paired_len F.at_
theorem Firsts.get {K : PySem.W.Frag} {H : Hp} {kvs : List (List Key × V)} {Ns : List News} (F : Firsts K H kvs Ns) {i : Nat} {kv : List Key × V} (e : kvs[i]? = some kv) : ∃ N, Ns[i]? = some N ∧ kv.1 = keyN N ∧ Im K H kv.2 N.data ∧ N.Ok ∧ valV kvs kv.1 = some kv.2 := by
  obtain ⟨N, h1, h2, h3, h4⟩ := paired_get F.at_ e
  exact ⟨N, h1, h2, h3, h4, val_nodup (by rw [F.keys]; exact F.nd) kv (List.mem_of_getElem? e)⟩
theorem Firsts.inj {K : PySem.W.Frag} {H : Hp} {kvs : List (List Key × V)} {Ns : List News} (F : Firsts K H kvs Ns) : ∀ M ∈ Ns, ∀ N ∈ Ns, M.house = N.house → M.number = N.number → M = N := fun M hM N hN h1 h2 => by
  have nd := F.nd
  rw [List.Nodup, List.pairwise_map] at nd
  refine Classical.byContradiction fun z => ?_
  have : ∀ {l : List News}, l.Pairwise (fun a b => keyN a ≠ keyN b) → M ∈ l → N ∈ l → False := fun {l} => by
    induction l with
    | nil => intro _ h; cases h
    | cons a l ih =>
      intro p h1' h2'
      rw [List.pairwise_cons] at p
      have ke : keyN M = keyN N := by unfold keyN; rw [h1, h2]
      rcases List.mem_cons.mp h1' with e1 | m1
      · rcases List.mem_cons.mp h2' with e2 | m2
        · exact z (e1.trans e2.symm)
        · exact p.1 N m2 (e1 ▸ ke)
      · rcases List.mem_cons.mp h2' with e2 | m2
        · exact p.1 M m1 (e2 ▸ ke.symm)
        · exact ih p.2 m1 m2
  exact this nd hM hN
/-- first[key] = first.get(key, news) -/
theorem Firsts.put {K : PySem.W.Frag} {H : Hp} {kvs : List (List Key × V)} {Ns : List News} (F : Firsts K H kvs Ns) {N : News} {v : V} (hi : Im K H v N.data) (ok : N.Ok) : ∃ Ns', Firsts K H (putK kvs (keyN N) ((valV kvs (keyN N)).getD v)) Ns' ∧ Ns'.length ≤ Ns.length + 1 := by
  cases e : valV kvs (keyN N) with
  | none =>
    refine ⟨Ns ++ [N], ⟨?_, ?_⟩, by rw [List.length_append]; exact Nat.le_refl _⟩
    · rw [putK_new _ e]
      exact Paired.snoc F.at_ ⟨rfl, hi, ok⟩
    · rw [List.map_append, List.nodup_append]
      refine ⟨F.nd, by simp, fun a ha b hb z => ?_⟩
      rw [List.map_cons, List.map_nil, List.mem_singleton] at hb
      rw [← F.keys, z, hb] at ha
      obtain ⟨kv, hkv, hk⟩ := List.mem_map.mp ha
      have := val_nodup (by rw [F.keys]; exact F.nd) kv hkv
      rw [hk, e] at this
      cases this
  | some w =>
    refine ⟨Ns, ?_, Nat.le_succ _⟩
    have : putK kvs (keyN N) w = kvs := by
      unfold putK
      rw [valV_any, e, if_pos (show (some w).isSome = true from rfl)]
      have : kvs.map (fun kv => if kv.1 = keyN N then (kv.1, w) else kv) = kvs.map id := List.map_congr_left fun kv hkv => by
        by_cases hk : kv.1 = keyN N
        · rw [if_pos hk]
          have := val_nodup (by rw [F.keys]; exact F.nd) kv hkv
          rw [hk, e] at this
          rw [Option.some.inj this]
          rfl
        · rw [if_neg hk]
          rfl
      rw [this, List.map_id]
    rw [show (some w).getD v = w from rfl, this]
    exact F
section
variable {K : PySem.W.Frag} {mg : Str → Option Value}
/-- over the keys of a dict that is locked -/
theorem for_keysT {d : Addr} {od : Obj} {kvs : List (List Key × V)} {g : TG} {tb : TS} {D : Ends} {σ : L2.St} {H : Hp} (Pv : Nat → L2.St → Hp → Prop) (h0 : Pv 0 σ H) (hl : ∀ i σ H, Pv i σ H → H d = some (.frz od (.dT kvs)))
    (hs : ∀ i kv q σ H, kvs[i]? = some kv → H q = some (.tup (kv.1.map kV)) → Pv i σ H → g (.ref q) σ H fun σ2 H2 => tb { D with nx := Pv (i + 1), ct := Pv (i + 1), bk := D.nx } σ2 H2) (hd : ∀ σ H, Pv kvs.length σ H → D.nx σ H) :
    ∃ W : Nat → Nat → L2.St → Hp → Prop, (∃ m, W 0 m σ H) ∧ ∀ i m σ H, W i m σ H →
      ((Itkt d od kvs).stop i H ∧ D.nx σ H) ∨ ((Itkt d od kvs).go i H ∧ ∃ N : L2.St → Hp → Prop, (∀ σ' H', N σ' H' → ∃ m', m' < m ∧ W (i + 1) m' σ' H') ∧ ∀ x H', (Itkt d od kvs).yld i H x H' → g x σ H' fun σ2 H2 => tb { D with nx := N, ct := N, bk := D.nx } σ2 H2) := by
  refine ⟨fun i m σ H => m = kvs.length - i ∧ i ≤ kvs.length ∧ Pv i σ H, ⟨kvs.length, by simp, Nat.zero_le _, h0⟩, ?_⟩
  rintro i m σ H ⟨rfl, hi, p⟩
  have q := hl i σ H p
  by_cases hlt : i < kvs.length
  · refine .inr ⟨⟨q, hlt⟩, Pv (i + 1), fun σ' H' p' => ⟨kvs.length - (i + 1), by omega, rfl, hlt, p'⟩, fun x H' y => ?_⟩
    obtain ⟨rfl, k, v, a, e1, rfl, e2⟩ := y
    exact hs i (k, v) a σ _ e1 e2 p
  · have e : i = kvs.length := by omega
    subst e
    exact .inl ⟨⟨q, Nat.le_refl _⟩, hd σ H p⟩
theorem Tx.unlock {H : Hp} {d : Addr} {od : Obj} {kvs : List (List Key × V)} (h : H d = some (.frz od (.dT kvs))) (o : HO) : Tx K H (upd H d o) := fun p xs hp => by
  rcases hp with (hp | ⟨o', hp⟩) | hp
  · refine .inl (.inl ?_)
    rw [upd_ne fun z => by rw [z, h] at hp; cases hp]
    exact hp
  · refine .inl (.inr ⟨o', ?_⟩)
    rw [upd_ne fun z => by rw [z, h] at hp; cases hp]
    exact hp
  · exact .inr hp
theorem el_rev {σ : L2.St} {H : Hp} {te : TE} {a : Addr} {xs : List V} (h : Ev te σ H (.ref a)) (hs : SqL K H a xs) : EvL (tListRev K te) σ H xs.reverse := fun H1 e Q q => h H1 e _ fun H2 e2 => ⟨a, xs, rfl, ex_l (e.trans e2) hs, fun l hl => q l _ (fresh_back e2 hl) (e2.trans (Ex.new hl)) upd_same⟩
theorem el_slN {σ : L2.St} {H : Hp} {te : TE} {tl th : TO} {lo hi : Option Int} {xs : List V} (h : EvL te σ H xs) (hl : ∀ H1, Ex H H1 → EvO tl σ H1 lo) (hh : ∀ H1, Ex H H1 → EvO th σ H1 hi) : EvL (L2.tSl (rSlL K) te tl th) σ H (cutV xs lo hi) := fun H1 e Q q =>
  h H1 e _ fun p H2 hp e2 hx => hl H2 (e.trans e2) H2 (Ex.refl H2) _ fun H3 e3 => hh H3 ((e.trans e2).trans e3) H3 (Ex.refl H3) _ fun H4 e4 => ⟨p, xs, rfl, sq_of ((e3.trans e4) _ _ hx), fun l hl' => q l _ (fresh_back ((e2.trans e3).trans e4) hl') (((e2.trans e3).trans e4).trans (Ex.new hl')) upd_same⟩
theorem cut_to {xs : List V} {j : Nat} : cutV xs none (some (j : Int)) = xs.take j := by
  unfold cutV
  rw [HT.sIx_none, HT.sIx_nat]
  show (xs.drop 0).take _ = _
  rw [List.drop_zero]
  by_cases h : j ≤ xs.length
  · rw [Nat.min_eq_left h]
    rfl
  · rw [Nat.min_eq_right (by omega), List.take_of_length_le (by omega), List.take_of_length_le (by omega)]
theorem shp_letter {L : Letter} (h : L.Ok) : Shp 2 L.data := shp_tup fun d hd => by
  simp only [List.mem_cons, List.not_mem_nil, or_false] at hd
  rcases hd with rfl | rfl | rfl | rfl | rfl
  · exact shp_int _ _
  · exact shp_ints 0 _
  · refine shp_str _ ?_
    have := h.kind
    simp only [kinL, List.mem_cons, List.not_mem_nil, or_false] at this
    rcases this with h | h | h | h | h <;> rw [h] <;> decide +kernel
  · exact shp_ints 0 _
  · exact shp_ints 0 _
theorem shp_letters {Ls : List Letter} (h : ∀ L ∈ Ls, L.Ok) : SeqAt.shaped (.list (Ls.map Letter.data)) = true := Shp.ok (n := 3) (shp_lst fun d hd => by
  obtain ⟨L, hL, rfl⟩ := List.mem_map.mp hd
  exact shp_letter (h L hL)) (by decide)
/-- hear, of a map at hand -/
theorem meth_hear {σ : L2.St} {H : Hp} {te te' : TE} {p d : Addr} {kvs : List (Key × V)} {ks : List Int} {f : MF} {N : News} {Q : VK} (M : MapAt K H p d kvs ks f) (h : Ev te σ H (.ref p)) (h' : ∀ H1, Ex H H1 → EvI K te' σ H1 N.data) (ok : N.Ok)
    (k : ∀ b kvs' ks' H', Bt [d] H H' → MapAt K H' p d kvs' ks' (hearF f N) → Q (.bl b) H') : tMeth (He.ga K "Map") "hear" (sp_Map_hear K) [] E0 te (tCons te' tNil) σ H Q := h H (Ex.refl H) _ fun H1 e1 => by
  have M1 := M.ex e1
  obtain ⟨dx, hp⟩ := M1.ins
  refine ⟨p, dx, _, rfl, hp, rfl, h' H1 e1 H1 (Ex.refl H1) _ fun v H2 e2 i2 => ⟨p, d, kvs, ks, f, v, N, rfl, M1.ex e2, i2, ok, fun b kvs' ks' H' bt M' => k b kvs' ks' H' ((Bt.ex (e1.trans e2)).trans bt) M'⟩⟩
end

end K85
end
section
set_option maxHeartbeats 400000
namespace K85
open PySem PySem.Spec PyProof.Rows
open L2 hiding CX0 E0 pass0
open C8 Evl
/-! ### tactics -/
local macro_rules | `(tactic| walk_at "side") => `(tactic| first | omega | assumption | rfl | decide)
local macro_rules | `(tactic| walk_at "at") => `(tactic| first | (refine at_int ?_ ?_ <;> first | omega | (simp; omega)) | assumption)
local macro_rules | `(tactic| walk_at "rv") => `(tactic| first
  | with_reducible exact rv_I0
  | ((with_reducible apply rv_eq); rfl)
  | ((with_reducible apply rv_ne); rfl)
  | ((with_reducible apply rv_mod); first | omega | decide)
  | ((with_reducible apply rv_mul); omega)
  | ((with_reducible apply rv_div); omega)
  | ((with_reducible apply rv_ixL); · assumption
     · walk_at "at")
  | ((with_reducible apply rv_ixT); · assumption
     · walk_at "at"))
local macro_rules | `(tactic| walk_at "ev") => `(tactic| first
  | ((with_reducible apply ev_var); rfl)
  | with_reducible exact ev_c
  | ((with_reducible apply ev_isN); walk_at "ev")
  | ((with_reducible apply ev_notN); walk_at "ev")
  | ((with_reducible apply ev_op); · walk_at "ev"
     · walk_at "ev"
     · walk_at "rv")
  | ((with_reducible apply ev_un); · walk_at "ev"
     · with_reducible exact ru_neg)
  | ((with_reducible apply ev_chain); · walk_at "ev"
     · walk_at "ev"
     · walk_at "rv"
     · intro _; walk_at "ev"
     · intro _; walk_at "rv")
  | ((with_reducible apply ev_len); · walk_at "ev"
     · assumption)
  | ((with_reducible apply ev_lenT); · walk_at "ev"
     · assumption)
  | ((with_reducible apply ev_andV); · walk_at "ev"
     · intro _; walk_at "ev")
  | with_reducible assumption)
local macro_rules | `(tactic| walk_at "evt") => `(tactic| first
  | ((with_reducible apply et_or); · walk_at "evt"
     · intro _; walk_at "evt")
  | ((with_reducible apply et_and); · walk_at "evt"
     · intro _; walk_at "evt")
  | ((with_reducible apply et_not); walk_at "evt")
  | ((with_reducible apply et_test); walk_at "ev")
  | ((with_reducible apply et_B); walk_at "ev")
  | with_reducible assumption)
local macro_rules | `(tactic| walk_at "bool") => `(tactic| first | rfl | (simp; done) | (simp; omega) | (simp; intros; omega) | grind)
section
variable {K : PySem.W.Frag} {mg : Str → Option Value}
theorem Paired.app {α β : Type} {F : α → β → Prop} : ∀ {l : List α} {m : List β} {l' : List α} {m' : List β}, Paired F l m → Paired F l' m' → Paired F (l ++ l') (m ++ m')
  | _, _, _, _, .nil, h => h
  | _, _, _, _, .cons r t, h => .cons r (Paired.app t h)
theorem Paired.rev {α β : Type} {F : α → β → Prop} : ∀ {l : List α} {m : List β}, Paired F l m → Paired F l.reverse m.reverse
  | _, _, .nil => .nil
  | _, _, .cons (a := a) (b := b) r t => by
    rw [List.reverse_cons, List.reverse_cons]
    exact Paired.snoc (Paired.rev t) r
theorem Paired.tk {α β : Type} {F : α → β → Prop} : ∀ {l : List α} {m : List β} (n : Nat), Paired F l m → Paired F (l.take n) (m.take n)
  | _, _, 0, _ => by rw [List.take_zero, List.take_zero]; exact .nil
  | _, _, n + 1, .nil => .nil
  | _, _, n + 1, .cons r t => .cons r (Paired.tk n t)
theorem q_te {te : TE} {j : Nat} {tz : TS} {D : Ends} {σ : L2.St} {H : Hp} (h : te σ H fun v H1 => tz D (σ.set j (some v)) H1) : tSeq (tAsg te (gName j)) tz D σ H := h
theorem Tx.updD {H : Hp} {d : Addr} {kvs : List (List Key × V)} {o : HO} (h : H d = some (.dT kvs)) : Tx K H (upd H d o) :=
  Bt.tx (S := [d]) (Bt.upd (Bt.refl _ _) (.inl (by simp))) fun q hq => by
    rw [List.mem_singleton.mp hq]
    exact ⟨_, h, fun xs z => (by cases z), fun b u z => (by cases z)⟩
theorem eil_is {te : TE} {σ : L2.St} {H : Hp} {ds es : List PyData} (h : EvIL K te σ H ds) (e : ds = es) : EvIL K te σ H es := e ▸ h
theorem hs_none : hsL (fun _ => none) = [] := by
  unfold hsL
  rw [List.filter_eq_nil_iff]
  intro i _
  simp
theorem news_none : newsM (fun _ => none) = [] := by unfold newsM; rw [hs_none]; rfl
theorem wires_none : wiresM (fun _ => none) = [] := by unfold wiresM; rw [hs_none]; rfl
theorem holder_none (name : Str) : holderM (fun _ => none) name = none := by unfold holderM; rw [hs_none]; rfl
theorem eil_copy {te : TE} {σ : L2.St} {H : Hp} {p d : Addr} (M : MapAt K H p d [] [] (fun _ => none)) (h : Ev te σ H (.ref p)) : EvIL K (tMeth (He.ga K "Map") "news" (sp_Map_news K) [] E0 (tMeth (He.ga K "Map") "copy" (sp_Map_copy K) [] E0 te tNil) tNil) σ H [] := fun H1 e Q q => h H1 e _ fun H2 e2 => by
  have M2 := M.ex (e.trans e2)
  obtain ⟨dx, hp⟩ := M2.ins
  refine ⟨p, dx, _, rfl, hp, rfl, p, d, rfl, M2, fun p' d' H3 e3 M3 => ?_⟩
  obtain ⟨dx', hp'⟩ := M3.ins
  refine ⟨p', dx', _, rfl, hp', rfl, p', d', [], [], _, rfl, M3, fun l xs H4 hl e4 h4 i4 => ?_⟩
  rw [news_none] at i4
  exact q l xs H4 (fresh_back (e2.trans e3) hl) ((e2.trans e3).trans e4) h4 i4
def isNews (L : Letter) : Bool := decide (L.kind = "news")
def LetOk (Lt : Letter) : Prop := Lt.Ok ∧ (Lt.kind = "news" → ∃ N : News, N.Ok ∧ Lt.body = N.body)
def sp_law (K : PySem.W.Frag) : Sp := fun vs H Q _ => ∃ (a : Addr) (ns : List Int), vs = [.ref a] ∧ SqL K H a (ns.map V.int) ∧ ns.length ≤ 63 ∧ ∀ H', Q (.bl true) H'
/-- law -/
def t_law (K : PySem.W.Frag) : TS :=
    (tSeq (tAsg (tSl (rSlL K) (tOp (rCatS K) (tVar 0) (tLst (tCons (tC (.int 0)) tNil))) tNoPart (tPart (tC (.int 8)))) (gName 1))
    (tSeq (tAsg (tCall (sp_law_left K) [] C8.E0 (tCons (tOp (rIxL K) (tVar 1) (tC (.int 0))) tNil)) (gName 2))
    (tSeq (tAsg (tLc (iRng1 (tCons (tCB (Evl.rLenS K) (tCons (tVar 1) tNil)) tNil)) (gName 12) tYes (tCall (sp_law_letter K) [] C8.E0 (tCons (tCall (sp_law_left K) [] C8.E0 (tCons (tOp (rIxL K) (tVar 1) (tVar 12)) tNil)) (tCons (tVar 12) tNil))) [12]) (gName 3))
    (tSeq (tIfS (tTest (tOp (rNeD K) (tCall (sp_law_come K) [] C8.E0 (tCons (tVar 3) (tCons (tVar 2) tNil))) (tVar 3))) (tRet (tC (.bl false))) tNext)
    (tSeq (tAsg (tLc (iList K (tVar 3)) (gName 6) (tTest (tOp rEq (tOp (rIxT K) (tVar 6) (tC (.int 2))) (tC (.str "news")))) (tVar 6) [6]) (gName 4))
    (tSeq (tAsg tDNewT (gName 5))
    (tSeq (tFor (iList K (tVar 4)) (gName 6)
    (tSeq (tAsg (tCall (sp_news_of K) [] C8.E0 (tCons (tOp (rIxT K) (tVar 6) (tC (.int 4))) tNil)) (gName 7))
    (tSeq (tAsg (tTup (tCons (tOp (rIxT K) (tVar 7) (tC (.int 0))) (tCons (tOp (rIxT K) (tVar 7) (tC (.int 1))) tNil))) (gName 8))
    (sDPut (tVar 5) (tVar 8) (tDGet2 (tVar 5) (tVar 8) (tVar 7))))))
    (tSeq (tAsg (tMake (He.ga K "Map") (sp_Map_init K) [] C8.E0 tNil) (gName 9))
    (tSeq (tIfS (tOr (tTest (tOp (rNeD K) (tMeth (He.ga K "Map") "wires" (sp_Map_wires K) [] C8.E0 (tVar 9) tNil) (tLst tNil))) (tOr (tTest (tOp (rNeD K) (tMeth (He.ga K "Map") "news" (sp_Map_news K) [] C8.E0 (tVar 9) tNil) (tLst tNil))) (tOr (tTest (tOp rNotN (tMeth (He.ga K "Map") "holder" (sp_Map_holder K) [] C8.E0 (tVar 9) (tCons (tC (.str "a")) tNil)) (tC .non))) (tTest (tOp (rNeD K) (tMeth (He.ga K "Map") "news" (sp_Map_news K) [] C8.E0 (tMeth (He.ga K "Map") "copy" (sp_Map_copy K) [] C8.E0 (tVar 9) tNil) tNil) (tLst tNil)))))) (tRet (tC (.bl false))) tNext)
    (tSeq (tLock (tFor (iKeys (tVar 5)) (gName 8)
    (tDrop (tMeth (He.ga K "Map") "hear" (sp_Map_hear K) [] C8.E0 (tVar 9) (tCons (tDGet (tVar 5) (tVar 8)) tNil)))))
    (tSeq (tAsg (tMake (He.ga K "Map") (sp_Map_init K) [] C8.E0 tNil) (gName 10))
    (tSeq (tAsg (tCB rListDT (tCons (tVar 5) tNil)) (gName 11))
    (tSeq (tFor (iList K (tOp (rCatS K) (tListRev K (tVar 11)) (tSl (rSlL K) (tVar 11) tNoPart (tPart (tC (.int 2)))))) (gName 8)
    (tDrop (tMeth (He.ga K "Map") "hear" (sp_Map_hear K) [] C8.E0 (tVar 10) (tCons (tCall (sp_news_of K) [] C8.E0 (tCons (tCall (sp_news_body K) [] C8.E0 (tCons (tDGet (tVar 5) (tVar 8)) tNil)) tNil)) tNil))))
    (tRet (tCall (sp_law_alike K) [] C8.E0 (tCons (tVar 9) (tCons (tVar 10) tNil)))))))))))))))))
theorem pure_law (T : Wd K mg) (vs : List V) (H : Hp) (Q : VK) (E : XK) (h : sp_law K vs H Q E) : t_law K { nx := fun _ H' => Q .non H', rt := Q } (start ["script", "cells", "left", "letters", "near", "first", "letter", "news", "key", "home", "far", "order", "k"] vs) H := by
  obtain ⟨a, ns, rfl, ha, hl, k⟩ := h
  obtain ⟨cs, hcs⟩ : ∃ cs, cs = (ns ++ [0]).take 8 := ⟨_, rfl⟩
  have cl : 1 ≤ cs.length ∧ cs.length ≤ 8 := by
    rw [hcs, List.length_take, List.length_append, List.length_singleton]
    omega
  refine q_asgL (xs := cs.map V.int) (el_is (el_slN (lo := none) (hi := some ((8 : Nat) : Int)) (el_catV (ys := [.int 0]) (ev_var rfl) ha (el_lst (ea_cons ev_c ea_nil) (Nat.le_of_ble_eq_true rfl)) (by simp; omega)) (fun _ _ => eo_none) (fun _ _ => eo_some ev_c)) (by rw [cut_to, hcs, List.map_take, List.map_append]; rfl)) fun c H1 hc e1 h1 => ?_
  refine ⟨_, rfl, c, _, 0, .int (cs.getD 0 0), rfl, rfl, sq_of h1, at_lit (k := 0) (by omega), cs.getD 0 0, rfl, fun l H2 hl2 e2 L2 => ?_⟩
  have h2 := e2 _ _ h1
  dsimp only [gName]
  refine q_te ?_
  refine lcR1_any (n := (cs.length : Int)) (ea_cons (ev_is (ev_len (ev_var rfl) (sq_of h2)) (by rw [List.length_map])) ea_nil) (by omega) (fun Dl i H' => H2 Dl = none ∧ Ex H2 H' ∧ ∃ ys Ls, H' Dl = some (.lst ys) ∧ ImAll K H' ys (Ls.map Letter.data) ∧ Ls.length = i ∧ ∀ Lt ∈ Ls, LetOk Lt)
    (fun Dl H3 hD e3 => ⟨hD, Ex.mut e3 hD, [], [], upd_same, .nil, rfl, by simp⟩) (fun Dl i H' hi p => ?_) fun Dl H3 p => ?_
  · obtain ⟨hD, e, ys, Ls, hys, iys, Ll, oks⟩ := p
    refine ⟨rfl, ?_⟩
    refine ⟨_, rfl, _, rfl, c, _, (i : Int), .int (cs.getD i 0), rfl, rfl, sq_of (e _ _ h2), at_lit (by omega), cs.getD i 0, rfl, fun l' H4 hl' e4 L4 => ⟨_, rfl, l', (i : Int), rfl, L4, by omega, by omega, fun v Lt H5 b5 L5 ok hN iv => ?_⟩⟩
    have e5 : Ex H' H5 := ((Bt.ex (S := [l']) e4).trans b5).fresh (by simpa using hl')
    have h5 := e5 _ _ hys
    have yl : ys.length = i := by rw [iys.length, List.length_map, Ll]
    refine ⟨ys, h5, sz_lt (by omega), hD, Ex.mut (e.trans e5) hD, ys ++ [v], Ls ++ [Lt], upd_same, ?_, by rw [List.length_append, Ll]; rfl, fun M hM => ?_⟩
    · have tx := Tx.updL (K := K) (o := .lst (ys ++ [v])) h5
      rw [List.map_append]
      exact (ImAll.tx tx _ _ (ImAll.ex e5 iys)).app (.cons (Im.tx tx _ _ iv) .nil)
    · rw [List.mem_append, List.mem_singleton] at hM
      rcases hM with hM | rfl
      · exact oks M hM
      · exact ⟨ok, hN⟩
  obtain ⟨hD, e3, ys, Ls, hys, iys, Ll, oks⟩ := p
  have L3 := L2.ex e3
  have nDl := (L2.new hD).symm
  have shL := shp_letters fun L h => (oks L h).1
  refine ⟨_, rfl, _, rfl, Dl, l, ys, Ls, rfl, hys, nDl, iys, fun L h => (oks L h).1, by omega, L3, fun q zs H4 hq b4 L4 hq4 i4 => ⟨_, rfl, .list (Ls.map Letter.data), .list (Ls.map Letter.data), .lst (sq_of hq4) (ImAll.dp _ _ i4), .lst (sq_of (b4.at hys (by simpa using nDl))) (ImAll.dp _ _ (ImAll.tx (L3.tx b4) _ _ iys)), shL, shL, false, by rw [SeqAt.eqv_refl _ (SeqAt.canLay_of_shaped shL)]; rfl, ?_⟩⟩
  have hys4 := b4.at hys (by simpa using nDl)
  have iys4 := ImAll.tx (L3.tx b4) _ _ iys
  have ysl : ys.length = Ls.length := by rw [iys.length, List.length_map]
  dsimp only
  rw [if_neg Bool.false_ne_true]
  dsimp only [tNext]
  refine q_te ?_
  refine lcL_any (a := Dl) (xs := ys) (ev_var rfl) (sq_of hys4) (fun Dn i H' => H4 Dn = none ∧ Ex H4 H' ∧ ∃ zs, H' Dn = some (.lst zs) ∧ ImAll K H' zs (((Ls.take i).filter isNews).map Letter.data))
    (fun Dn H5 hD e5 => ⟨hD, Ex.mut e5 hD, [], upd_same, .nil⟩) (fun Dn i H' _ p => sq_of (p.2.1 _ _ hys4)) (fun Dn i x H' hx p => ?_) fun Dn H5 p => ?_
  · obtain ⟨hDn, e, zs, hz, iz⟩ := p
    obtain ⟨dd, hdd, ix⟩ := iys4.get hx
    rw [List.getElem?_map, Option.map_eq_some_iff] at hdd
    obtain ⟨Lt, hLt, rfl⟩ := hdd
    obtain ⟨lp, w, ab, bd, rfl, hp, hw, hab, hbd⟩ := letter_inv (Im.ex e ix)
    have fl : (((Ls.take i).filter isNews).map Letter.data).length ≤ 8 := by
      rw [List.length_map]
      refine Nat.le_trans (List.length_filter_le _ _) ?_
      rw [List.length_take]
      omega
    refine ⟨rfl, ?_⟩
    refine (et_is (et_test (ev_op (x := .str Lt.kind) (ev_op (ev_var rfl) ev_c (rv_ixT hp (at_nat (by decide) rfl))) ev_c (rv_eq rfl))) (by unfold isNews; rw [Bool.eq_iff_iff]; simp) : EvT _ _ H' (isNews Lt)) H' (Ex.refl H') _ fun H5 e5 => ?_
    have hz5 := e5 _ _ hz
    have iz5 := ImAll.ex e5 iz
    rw [take_snoc hLt, List.filter_append, List.filter_cons, List.filter_nil]
    cases hb : isNews Lt with
    | true =>
      refine ⟨_, rfl, zs, hz5, sz_lt (by rw [iz.length]; omega), hDn, Ex.mut (e.trans e5) hDn, zs ++ [.ref lp], upd_same, ?_⟩
      have tx := Tx.updL (K := K) (o := .lst (zs ++ [.ref lp])) hz5
      rw [if_pos rfl, List.map_append]
      exact (ImAll.tx tx _ _ iz5).app (.cons (Im.tx tx _ _ (Im.ex (e.trans e5) ix)) .nil)
    | false =>
      refine ⟨hDn, e.trans e5, zs, hz5, ?_⟩
      rw [if_neg Bool.false_ne_true, List.append_nil]
      exact iz5
  obtain ⟨hDn, e5, zs, hz, iz⟩ := p
  have msok : ∀ M ∈ (Ls.take ys.length).filter isNews, M.Ok ∧ ∃ N : News, N.Ok ∧ M.body = N.body := fun M hM => by
    obtain ⟨h1, h2⟩ := List.mem_filter.mp hM
    have := oks M (List.mem_of_mem_take h1)
    exact ⟨this.1, this.2 (of_decide_eq_true h2)⟩
  have msl : ((Ls.take ys.length).filter isNews).length ≤ 8 := by
    refine Nat.le_trans (List.length_filter_le _ _) ?_
    rw [List.length_take]
    omega
  generalize (Ls.take ys.length).filter isNews = Ms at *
  have zl : zs.length = Ms.length := by rw [iz.length, List.length_map]
  intro d hd
  have e6 : Ex H5 (upd H5 d (.dT [])) := Ex.new hd
  have hd6 : (upd H5 d (.dT [])) d = some (.dT []) := upd_same
  generalize upd H5 d (.dT []) = H6 at *
  refine q_forLn (a := Dn) (xs := zs) (ev_var rfl) (sq_of (e6 _ _ hz)) (fun i σ' H' => Ex H5 H' ∧ (∃ kvs Ns, H' d = some (.dT kvs) ∧ Firsts K H' kvs Ns ∧ Ns.length ≤ i) ∧ ∃ o6 o7 o8, σ' = [some (.ref a), some (.ref c), some (.ref l), some (.ref Dl), some (.ref Dn), some (.ref d), o6, o7, o8, none, none, none, none])
    (fun H7 e7 => ⟨e6.trans e7, ⟨[], [], e7 _ _ hd6, ⟨.nil, List.nodup_nil⟩, Nat.le_refl _⟩, none, none, none, rfl⟩) (fun i σ' H' _ p => sq_of (p.1 _ _ hz)) ?_ ?_
  · rintro i v σ' H' hv ⟨e, ⟨kvs, Ns, hdk, F, nl⟩, o6, o7, o8, rfl⟩
    obtain ⟨dd, hdd, iv⟩ := iz.get hv
    rw [List.getElem?_map, Option.map_eq_some_iff] at hdd
    obtain ⟨Lt, hLt, rfl⟩ := hdd
    obtain ⟨ok, N, nok, hbody⟩ := msok Lt (List.mem_of_getElem? hLt)
    have il := (List.getElem?_eq_some_iff.mp hLt).1
    obtain ⟨lp, w, ab, bd, rfl, hp, hw, hab, hbd⟩ := letter_inv (Im.ex e iv)
    rw [hbody] at hbd
    refine q_asgI (K := K) (evi_news_of (N := N) (a := bd) (ev_op (ev_var rfl) ev_c (rv_ixT hp (at_nat (by decide) rfl))) hbd nok) fun v H7 e7 i7 => ?_
    refine q_asgU (xs := [.int N.house, .int N.number]) (eu_tup (ea_cons (news_ix i7 (ev_var rfl)).1 (ea_cons (news_ix i7 (ev_var rfl)).2 ea_nil)) (Nat.le_of_ble_eq_true rfl)) fun kp H8 hk e8 h8 => ?_
    have e78 := e7.trans e8
    have hd8 := e78 _ _ hdk
    have F8 := F.tx (Tx.ex e78)
    obtain ⟨Ns', F', nl'⟩ := F8.put (Im.ex e8 i7) nok
    refine ⟨_, rfl, d, rfl, .inr ⟨kvs, .inl hd8⟩, _, rfl, _, rfl, valV kvs (keyN N), DGet.t hd8 h8, _, rfl, _, rfl, d, _, rfl, DPut.t (k := keyN N) hd8 h8 (sz_lt (by rw [F.len]; omega)), ?_⟩
    exact ⟨Ex.mut (e.trans e78) hd, ⟨_, Ns', upd_same, F'.tx (Tx.updD hd8), by omega⟩, _, _, _, rfl⟩
  rintro σ' H9 ⟨e9, ⟨kvs, Ns, hdk, F, nl⟩, o6, o7, o8, rfl⟩
  intro x dx hx hdx nd
  have e10 : Ex H9 (upd (upd H9 dx (.own x)) x (.ins (He.ga K "Map") dx [])) := (Ex.new hdx).trans (Ex.new (by rw [upd_ne nd.symm]; exact hx))
  have hx10 : (upd (upd H9 dx (.own x)) x (.ins (He.ga K "Map") dx [])) x = some (.ins (He.ga K "Map") dx []) := upd_same
  generalize upd (upd H9 dx (.own x)) x (.ins (He.ga K "Map") dx []) = H10 at *
  refine ⟨x, dx, rfl, hx10, fun d9 H11 hd9 b11 M11 => ⟨rfl, ?_⟩⟩
  have e11 : Ex H9 H11 := fun y o hy => b11 y o (fun z => by rw [List.mem_singleton.mp z, hx] at hy; cases hy) (e10 _ _ hy)
  have hd9' := fresh_back e10 hd9
  have ndx : d ≠ x := ne_of_none hdk hx
  have nd9 : d ≠ d9 := ne_of_none hdk hd9'
  refine q_when (b := false) (et_or (a := false) (b := false) (et_test (ev_neNew (ds := []) (eil_is (eil_wires M11 (ev_var rfl)) (by rw [wires_none]; rfl)) (fun H1 _ => eil_lst evi_nil (Nat.zero_le _)) rfl)) fun _ =>
    et_or (a := false) (b := false) (et_test (ev_neNew (ds := []) (eil_is (eil_news M11 (ev_var rfl)) (by rw [news_none]; rfl)) (fun H1 _ => eil_lst evi_nil (Nat.zero_le _)) rfl)) fun _ =>
    et_or (a := false) (b := false) (et_is (et_test (ev_notN (ev_holder M11 (ev_var rfl) ev_c))) (by rw [holder_none]; rfl)) fun _ => et_test (ev_neNew (ds := []) (eil_copy M11 (ev_var rfl)) (fun H1 _ => eil_lst evi_nil (Nat.zero_le _)) rfl)) (fun h => nomatch h) fun _ H12 e12 => ?_
  have M12 := M11.ex e12
  have hd12 := e12 _ _ (e11 _ _ hdk)
  have F12 := F.tx (Tx.ex (e11.trans e12))
  have inj := F12.inj
  refine ⟨d, .dT kvs, hd12, trivial, fun od => ?_⟩
  refine ⟨_, rfl, d, od, rfl, .inr ⟨kvs, upd_same, for_keysT (fun i σ' H' => Bt [d, d9] H12 H' ∧ H' d = some (.frz od (.dT kvs)) ∧ ∃ kvs' ks' o8, MapAt K H' x d9 kvs' ks' (heard (Ns.take i)) ∧ σ' = [some (.ref a), some (.ref c), some (.ref l), some (.ref Dl), some (.ref Dn), some (.ref d), o6, o7, o8, some (.ref x), none, none, none])
    ⟨Bt.upd (Bt.refl _ _) (.inl (by simp)), upd_same, [], [], o8, M12.keep (fun o h => by rw [upd_ne ndx.symm]; exact h) (fun o h => by rw [upd_ne nd9.symm]; exact h) (Tx.updD hd12), rfl⟩ (fun i σ' H' p => p.2.1) ?_ ?_⟩⟩
  · rintro i kv q σ' H' e hq ⟨b, hfr, kvs', ks', o8', M', rfl⟩
    obtain ⟨N, hN, hk, im, ok, hv⟩ := F12.get e
    have tx : Tx K H12 H' := Bt.tx b fun y hy => by
      simp only [List.mem_cons, List.not_mem_nil, or_false] at hy
      rcases hy with rfl | rfl
      · exact ⟨_, hd12, fun xs z => (by cases z), fun b u z => (by cases z)⟩
      · exact ⟨_, M12.dict, fun xs z => (by cases z), fun b u z => (by cases z)⟩
    refine meth_hear M' (ev_var rfl) (fun H1 e1 => evi_of (v := kv.2) (fun H2 e2 Q2 q2 => ⟨_, rfl, _, rfl, d, kv.2, rfl, .inr ⟨kvs, kv.1, q, .inr ⟨od, (e1.trans e2) _ _ hfr⟩, rfl, (e1.trans e2) _ _ hq, hv.symm⟩, q2 H2 (Ex.refl H2)⟩) (Im.ex e1 (Im.tx tx _ _ im))) ok fun bb kvs'' ks'' H'' bt M'' => ?_
    refine ⟨b.trans (bt.mono (by simp)), bt.at hfr (by simpa using nd9), kvs'', ks'', _, ?_, rfl⟩
    rw [take_snoc hN, heard_snoc]
    exact M''
  rintro σ' H13 ⟨b13, hfr, kvs', ks', o8', M13, rfl⟩
  rw [F.len, List.take_length] at M13
  refine ⟨hfr, ?_⟩
  have b14 : Bt [d, d9] H12 (upd H13 d (.dT kvs)) := Bt.upd b13 (.inl (by simp))
  have M14 := M13.keep (H' := upd H13 d (.dT kvs)) (fun o h => by rw [upd_ne ndx.symm]; exact h) (fun o h => by rw [upd_ne nd9.symm]; exact h) (Tx.unlock hfr _)
  have hd14 : (upd H13 d (.dT kvs)) d = some (.dT kvs) := upd_same
  generalize upd H13 d (.dT kvs) = H14 at *
  have F14 := F12.tx (Bt.tx b14 fun y hy => by
    simp only [List.mem_cons, List.not_mem_nil, or_false] at hy
    rcases hy with rfl | rfl
    · exact ⟨_, hd12, fun xs z => (by cases z), fun b u z => (by cases z)⟩
    · exact ⟨_, M12.dict, fun xs z => (by cases z), fun b u z => (by cases z)⟩)
  intro x2 dx2 hx2 hdx2 nd2
  have e15 : Ex H14 (upd (upd H14 dx2 (.own x2)) x2 (.ins (He.ga K "Map") dx2 [])) := (Ex.new hdx2).trans (Ex.new (by rw [upd_ne nd2.symm]; exact hx2))
  have hx15 : (upd (upd H14 dx2 (.own x2)) x2 (.ins (He.ga K "Map") dx2 [])) x2 = some (.ins (He.ga K "Map") dx2 []) := upd_same
  generalize upd (upd H14 dx2 (.own x2)) x2 (.ins (He.ga K "Map") dx2 []) = H15 at *
  refine ⟨x2, dx2, rfl, hx15, fun d10 H16 hd10 b16 M16 => ⟨rfl, ?_⟩⟩
  have e16 : Ex H14 H16 := fun y o hy => b16 y o (fun z => by rw [List.mem_singleton.mp z, hx2] at hy; cases hy) (e15 _ _ hy)
  have hd10' := fresh_back e15 hd10
  have nd10 : d ≠ d10 := ne_of_none hd14 hd10'
  have nx10 : x ≠ d10 := by
    obtain ⟨dx9, h9⟩ := M14.ins
    exact ne_of_none h9 hd10'
  have n910 : d9 ≠ d10 := ne_of_none M14.dict hd10'
  have hd16 := e16 _ _ hd14
  refine ⟨_, rfl, d, kvs, rfl, .inl hd16, fun op bs hop ik => ?_⟩
  have e17 : Ex H16 (upd H16 op (.lst (bs.map V.ref))) := Ex.new hop
  have h17 : (upd H16 op (.lst (bs.map V.ref))) op = some (.lst (bs.map V.ref)) := upd_same
  generalize upd H16 op (.lst (bs.map V.ref)) = H17 at *
  have hd17 := e17 _ _ hd16
  have M17 := M16.ex e17
  have M9 := M14.ex (e16.trans e17)
  have F17 := F14.tx (Tx.ex (e16.trans e17))
  have PB : Paired (fun b N => H17 b = some (.tup ((keyN N).map kV)) ∧ N.Ok ∧ ∃ v, valV kvs (keyN N) = some v ∧ Im K H17 v N.data) bs Ns := by
    have nk : (kvs.map (·.1)).Nodup := by rw [F17.keys]; exact F17.nd
    have vals : ∀ kv ∈ kvs, valV kvs kv.1 = some kv.2 := val_nodup nk
    have : ∀ {ks : List (List Key × V)} {Ns : List News} {bs : List Addr}, (∀ kv ∈ ks, kv ∈ kvs) → Paired (fun kv N => kv.1 = keyN N ∧ Im K H17 kv.2 N.data ∧ N.Ok) ks Ns → Paired (fun (p : List Key × V) b => H16 b = some (.tup (p.1.map kV))) ks bs → Paired (fun b N => H17 b = some (.tup ((keyN N).map kV)) ∧ N.Ok ∧ ∃ v, valV kvs (keyN N) = some v ∧ Im K H17 v N.data) bs Ns := fun {ks} => by
      induction ks with
      | nil =>
        intro Ns bs _ h1 h2
        cases h1
        cases h2
        exact .nil
      | cons kv ks ih =>
        intro Ns bs sub h1 h2
        cases h1 with
        | cons r1 t1 =>
          cases h2 with
          | cons r2 t2 =>
            have v := vals kv (sub kv (by simp))
            refine .cons ⟨?_, r1.2.2, kv.2, ?_, r1.2.1⟩ (ih (fun u hu => sub u (by simp [hu])) t1 t2)
            · rw [← r1.1]
              exact e17 _ _ r2
            · rw [← r1.1]
              exact v
    exact this (fun _ h => h) F17.at_ ik
  have PL := Paired.app (Paired.rev PB) (Paired.tk 2 PB)
  have bl : bs.length ≤ 8 := by
    rw [paired_len PB]
    omega
  refine q_forNLn (xs := (bs.reverse ++ bs.take 2).map V.ref) (el_is (el_cat (el_rev (ev_var rfl) (sq_of h17)) (el_is (el_sl (lo := none) (hi := some ((2 : Nat) : Int)) (ev_var rfl) eo_none (eo_some ev_c) (sq_of h17)) cut_to) (by simp; omega)) (by rw [List.map_append, List.map_reverse, List.map_take]))
    (fun p i σ' H' => Bt [d10] H17 H' ∧ H' p = some (.lst ((bs.reverse ++ bs.take 2).map V.ref)) ∧ p ≠ d10 ∧ ∃ kvs' ks' o8, MapAt K H' x2 d10 kvs' ks' (heard ((Ns.reverse ++ Ns.take 2).take i)) ∧ σ' = [some (.ref a), some (.ref c), some (.ref l), some (.ref Dl), some (.ref Dn), some (.ref d), o6, o7, o8, some (.ref x), some (.ref x2), some (.ref op), none])
    (fun p H18 hp e18 h18 => ⟨Bt.ex e18, h18, (ne_of_none M17.dict hp).symm, [], [], o8', M17.ex e18, rfl⟩) (fun p i σ' H' _ q => sq_of q.2.1) ?_ ?_
  · rintro p i v σ' H' hv ⟨b, hp, np, kvs', ks', o8'', M', rfl⟩
    rw [List.getElem?_map, Option.map_eq_some_iff] at hv
    obtain ⟨q, hq, rfl⟩ := hv
    obtain ⟨N, hN, hqk, ok, w, hw, iw⟩ := paired_get PL hq
    have nq : q ≠ d10 := ne_of hqk M17.dict (by intro z; cases z)
    have tx : Tx K H17 H' := Bt.tx b fun y hy => by
      rw [List.mem_singleton.mp hy]
      exact ⟨_, M17.dict, fun xs z => (by cases z), fun b u z => (by cases z)⟩
    have hd' := b.at hd17 (by simpa using nd10)
    have hq' := b.at hqk (by simpa using nq)
    have iw' := Im.tx tx _ _ iw
    refine meth_hear M' (ev_var rfl) (fun H1 e1 H2 e2 Q2 q2 => ?_) ok fun bb kvs'' ks'' H'' bt M'' => ?_
    · have e12 := e1.trans e2
      refine evi_news_body (N := N) (v := w) (fun H3 e3 Q3 q3 => ⟨_, rfl, _, rfl, d, w, rfl, .inr ⟨kvs, keyN N, q, .inl ((e12.trans e3) _ _ hd'), rfl, (e12.trans e3) _ _ hq', hw.symm⟩, q3 H3 (Ex.refl H3)⟩) (Im.ex e12 iw') ok H2 (Ex.refl H2) _ fun y H3 e3 i3 => ?_
      obtain ⟨bt, xs', rfl, hbt, ib⟩ := Im.tup_inv i3
      have := ImAll.ints_eq ib
      subst this
      exact ⟨bt, N, rfl, hbt, ok, fun z H4 e4 i4 => q2 z H4 (e3.trans e4) i4⟩
    · refine ⟨b.trans bt, bt.at hp (by simpa using np), np, kvs'', ks'', _, ?_, rfl⟩
      rw [take_snoc hN, heard_snoc]
      exact M''
  rintro p σ' H18 ⟨b18, hp, np, kvs18, ks18, o8'', M18, rfl⟩
  have same : heard Ns = heard (Ns.reverse ++ Ns.take 2) := heard_same (fun N => by
    rw [List.mem_append, List.mem_reverse]
    exact ⟨.inl, fun h => h.elim id List.mem_of_mem_take⟩) inj
  rw [List.length_map, paired_len PL, List.take_length, ← same] at M18
  have tx18 : Tx K H17 H18 := Bt.tx b18 fun y hy => by
    rw [List.mem_singleton.mp hy]
    exact ⟨_, M17.dict, fun xs z => (by cases z), fun b u z => (by cases z)⟩
  have M9' := M9.keep (fun o h => b18.at h (by simpa using nx10)) (fun o h => b18.at h (by simpa using n910)) tx18
  exact ⟨_, rfl, _, rfl, x, d9, _, _, x2, d10, _, _, heard Ns, rfl, M9', M18, fun H' _ => k H'⟩
section
variable {P : Program} {w : World} {K : PySem.W.Frag} {mg : Str → Option Value} {base : Heap}
theorem sc_law : FnScope ["script", "cells", "left", "letters", "near", "first", "letter", "news", "key", "home", "far", "order", "k"] ["script"] (defScope s_law) := ⟨rfl, rfl, rfl, by decide +kernel, rfl, by decide +kernel, by decide +kernel⟩
theorem dr_law (T : Wd K mg) (c_law_left : Cal P w K mg base 1 "_law_left" (sp_law_left K) []) (c_law_letter : Cal P w K mg base 5 "_law_letter" (sp_law_letter K) []) (c_law_come : Cal P w K mg base 7 "_law_come" (sp_law_come K) []) (c_news_of : Cal P w K mg base 5 "news_of" (sp_news_of K) []) (c_Map : Mak P w K mg base 1 "Map" (He.ga K "Map") (sp_Map_init K) []) (c_Map_wires : Met P w K mg base 2 (He.ga K "Map") "wires" (sp_Map_wires K) []) (c_Map_news : Met P w K mg base 1 (He.ga K "Map") "news" (sp_Map_news K) []) (c_Map_holder : Met P w K mg base 1 (He.ga K "Map") "holder" (sp_Map_holder K) []) (c_Map_copy : Met P w K mg base 3 (He.ga K "Map") "copy" (sp_Map_copy K) []) (c_Map_hear : Met P w K mg base 1 (He.ga K "Map") "hear" (sp_Map_hear K) []) (c_news_body : Cal P w K mg base 2 "news_body" (sp_news_body K) []) (c_law_alike : Cal P w K mg base 5 "_law_alike" (sp_law_alike K) []) {f : Addr} {cdv : Value} {A : Around} {outer : List Env} {s : Shared} {H : Hp} {E : XK} (hr : Room 7 (A.deeper (envOfC "law" (defScope s_law) s.heap.objs.size f cdv))) :
    PSs (cxOf CX0 P w K mg base ["script", "cells", "left", "letters", "near", "first", "letter", "news", "key", "home", "far", "order", "k"] "law" (defScope s_law) f cdv A outer s H E).nox (defBody s_law) (t_law K) := by
  have nd := sc_law.nd
  exact (pss_cons (ps_set (i := 1) nd rfl (by first | exact Or.inl rfl | exact Or.inr rfl) (pe_slice sl_list (pe_op op_catS (pv 0) (pe_lst (pa_cons pe_int pa_nil))) po_none (po_some pe_int)))
    (pss_cons (ps_set (i := 2) nd rfl (by first | exact Or.inl rfl | exact Or.inr rfl) (pe_c c_law_left hr (by decide) rfl (pa_cons (pe_ix ix_list (pv 1) pe_int (fun _ _ => rfl)) pa_nil)))
    (pss_cons (ps_setLc (i := 3) (own := [("k", 12)]) (g := (gName 12)) (tt := tYes) rfl nd rfl rfl (sw_true rfl rfl rfl (by decide +kernel)) (pi_range1 (by rfl) (T.free 101) (pa_cons (pe_callB call_len_seq (by rfl) (T.free 97) (by decide +kernel) (pa_cons (pv 1) pa_nil)) pa_nil)) (blkOk_by (by kernel_rfl)) (fun _ _ _ _ _ => (pg_name (i := 12) nd rfl (by first | exact Or.inl rfl | exact Or.inr rfl))) (fun _ _ _ _ _ => pts_nil) (fun _ _ _ _ _ => (pe_c c_law_letter hr (by decide) rfl (pa_cons (pe_c c_law_left hr (by decide) rfl (pa_cons (pe_ix ix_list (pv 1) (pv 12) (fun _ _ => rfl)) pa_nil)) (pa_cons (pv 12) pa_nil)))))
    (pss_cons (ps_if (pt_cmpR (op_neD hr.units) (pe_c c_law_come hr (by decide) rfl (pa_cons (pv 3) (pa_cons (pv 2) pa_nil))) (pv 3) (nomark _)) (pss_one (ps_ret pe_bl)) pss_nil)
    (pss_cons (ps_setLc (i := 4) (own := [("letter", 6)]) (g := (gName 6)) (tt := (tTest (tOp rEq (tOp (rIxT K) (tVar 6) (tC (.int 2))) (tC (.str "news"))))) rfl nd rfl rfl (sw_true rfl rfl rfl (by decide +kernel)) (pi_list (pv 3)) (blkOk_by (by kernel_rfl)) (fun _ _ _ _ _ => (pg_name (i := 6) nd rfl (by first | exact Or.inl rfl | exact Or.inr rfl))) (fun _ _ _ _ _ => pts_one (pt_cmpR op_eq (pe_ix ix_tup (pv 6) pe_int (fun _ _ => rfl)) pe_str (nomark _))) (fun _ _ _ _ _ => (pv 6)))
    (pss_cons (ps_set (i := 5) nd rfl (by first | exact Or.inl rfl | exact Or.inr rfl) pe_dnewT)
    (pss_cons (ps_for PassesOwn.never rfl (pi_list (pv 4)) (pg_name (i := 6) nd rfl (by first | exact Or.inl rfl | exact Or.inr rfl))
    (pss_cons (ps_set (i := 7) nd rfl (by first | exact Or.inl rfl | exact Or.inr rfl) (pe_c c_news_of hr (by decide) rfl (pa_cons (pe_ix ix_tup (pv 6) pe_int (fun _ _ => rfl)) pa_nil)))
    (pss_cons (ps_set (i := 8) nd rfl (by first | exact Or.inl rfl | exact Or.inr rfl) (pe_tup (pa_cons (pe_ix ix_tup (pv 7) pe_int (fun _ _ => rfl)) (pa_cons (pe_ix ix_tup (pv 7) pe_int (fun _ _ => rfl)) pa_nil))))
    (pss_one (ps_dput (hu_of hr) (pv 5) (pv 8) (pe_dget2 (hu_of hr) (pv 5) (pv 8) (pv 7) ⟨rfl, rfl, rfl, rfl⟩) rfl)))))
    (pss_cons (ps_set (i := 9) nd rfl (by first | exact Or.inl rfl | exact Or.inr rfl) (pe_mk0 c_Map hr (by decide) rfl))
    (pss_cons (ps_if (PW.pt (pw_or (pt_cmpR (op_neD hr.units) (pe_mt0 c_Map_wires hr (by decide) (pv 9)) (pe_lst pa_nil) (nomark _)) (pw_or (pt_cmpR (op_neD hr.units) (pe_mt0 c_Map_news hr (by decide) (pv 9)) (pe_lst pa_nil) (nomark _)) (pw_or (pt_cmpR op_notN1 (pe_mt c_Map_holder hr (by decide) (pv 9) (pa_cons pe_str pa_nil)) pe_non (nomark _)) (pw_or1 (pt_cmpR (op_neD hr.units) (pe_mt0 c_Map_news hr (by decide) (pe_mt0 c_Map_copy hr (by decide) (pv 9))) (pe_lst pa_nil) (nomark _))))))) (pss_one (ps_ret pe_bl)) pss_nil)
    (pss_cons (ps_lock (ps_for PassesOwn.never rfl (pi_keys (pv 5)) (pg_name (i := 8) nd rfl (by first | exact Or.inl rfl | exact Or.inr rfl))
    (pss_one (ps_expr (pe_mt c_Map_hear hr (by decide) (pv 9) (pa_cons (pe_dget (hu_of hr) (pv 5) (pv 8) (fun _ _ => rfl)) pa_nil))))))
    (pss_cons (ps_set (i := 10) nd rfl (by first | exact Or.inl rfl | exact Or.inr rfl) (pe_mk0 c_Map hr (by decide) rfl))
    (pss_cons (ps_set (i := 11) nd rfl (by first | exact Or.inl rfl | exact Or.inr rfl) (pe_callTy (call_list_dT rfl) (by rfl) (T.free 98) (by decide +kernel) (pa_cons (pv 5) pa_nil)))
    (pss_cons (ps_for PassesOwn.never rfl (pi_list (pe_op op_catS (pe_listRev rfl (by rfl) (T.free 98) (by rfl) (T.free 102) (pv 11)) (pe_slice sl_list (pv 11) po_none (po_some pe_int)))) (pg_name (i := 8) nd rfl (by first | exact Or.inl rfl | exact Or.inr rfl))
    (pss_one (ps_expr (pe_mt c_Map_hear hr (by decide) (pv 10) (pa_cons (pe_c c_news_of hr (by decide) rfl (pa_cons (pe_c c_news_body hr (by decide) rfl (pa_cons (pe_dget (hu_of hr) (pv 5) (pv 8) (fun _ _ => rfl)) pa_nil)) pa_nil)) pa_nil)))))
    (pss_one (ps_ret (pe_c c_law_alike hr (by decide) rfl (pa_cons (pv 9) (pa_cons (pv 10) pa_nil))))))))))))))))))
theorem ok_law (T : Wd K mg) (c_law_left : Cal P w K mg base 1 "_law_left" (sp_law_left K) []) (c_law_letter : Cal P w K mg base 5 "_law_letter" (sp_law_letter K) []) (c_law_come : Cal P w K mg base 7 "_law_come" (sp_law_come K) []) (c_news_of : Cal P w K mg base 5 "news_of" (sp_news_of K) []) (c_Map : Mak P w K mg base 1 "Map" (He.ga K "Map") (sp_Map_init K) []) (c_Map_wires : Met P w K mg base 2 (He.ga K "Map") "wires" (sp_Map_wires K) []) (c_Map_news : Met P w K mg base 1 (He.ga K "Map") "news" (sp_Map_news K) []) (c_Map_holder : Met P w K mg base 1 (He.ga K "Map") "holder" (sp_Map_holder K) []) (c_Map_copy : Met P w K mg base 3 (He.ga K "Map") "copy" (sp_Map_copy K) []) (c_Map_hear : Met P w K mg base 1 (He.ga K "Map") "hear" (sp_Map_hear K) []) (c_news_body : Cal P w K mg base 2 "news_body" (sp_news_body K) []) (c_law_alike : Cal P w K mg base 5 "_law_alike" (sp_law_alike K) []) {f : Addr} {fd : FuncData} (F : FunD K ds_law.name ds_law.qual ds_law.params ds_law.body ds_law.scope [] [] f fd) : FnOk P w K mg base CX0 8 f fd ["script"] (sp_law K) := by
  refine FunD.ok F sc_law (fun vs H Q E h => ?_) (fun cdv A outer s H vs Q E hr h => ⟨t_law K, PSs.nox (dr_law T c_law_left c_law_letter c_law_come c_news_of c_Map c_Map_wires c_Map_news c_Map_holder c_Map_copy c_Map_hear c_news_body c_law_alike hr), pure_law T vs H Q E h⟩)
  obtain ⟨_, _, e, _⟩ := h
  rw [e]
  all_goals rfl
end
end

end K85
end
section
set_option maxHeartbeats 4000000
namespace K85
open PySem PySem.Spec PyProof.Rows
open L2 hiding CX0 E0 pass0
open C8 Evl
/-- what the head tells of the law -/
theorem facts {P : Program} {w : World} {K : PySem.W.Frag} {h : Heap} {mg : Str → Option Value} {f : Addr} (X : K.In h) (G : h.Ns mainGlobals mg) (hfa : mg ("law" : Str) = some (.ref f)) (c : SaysX K) :
    ∃ fd : FuncData, (∀ (s : Shared) (v : Value), BindsTo s fd ⟨[v], []⟩ [("script", v)]) ∧ ∀ base : Heap, K.In base → base.Ns mainGlobals mg → FnOk P w K mg base CX0 8 f fd ["script"] (sp_law K) := by
  have T : Wd K mg := ⟨fun i f e => c.d.fact i e, ⟨h, X, G⟩, c.t⟩
  obtain ⟨fd_law_left, F_law_left⟩ := c.d.def_ 50 (d := ds_law_left) rfl
  obtain ⟨fd_law_next, F_law_next⟩ := c.d.def_ 51 (d := ds_law_next) rfl
  obtain ⟨fd_law_unlike, F_law_unlike⟩ := c.d.def_ 54 (d := ds_law_unlike) rfl
  obtain ⟨fd_is_house, F_is_house⟩ := c.d.def_ 18 (d := ds_is_house) rfl
  obtain ⟨fd_look_at_near, F_look_at_near⟩ := c.d.def_ 20 (d := ds_look_at_near) rfl
  obtain ⟨fd_is_name, F_is_name⟩ := c.d.def_ 19 (d := ds_is_name) rfl
  obtain ⟨fd_look_at_names, F_look_at_names⟩ := c.d.def_ 21 (d := ds_look_at_names) rfl
  obtain ⟨fd_made_news, F_made_news⟩ := c.d.def_ 22 (d := ds_made_news) rfl
  obtain ⟨fd_law_news, F_law_news⟩ := c.d.def_ 55 (d := ds_law_news) rfl
  obtain ⟨fd_number_signs, F_number_signs⟩ := c.d.def_ 16 (d := ds_number_signs) rfl
  obtain ⟨fd_name_number, F_name_number⟩ := c.d.def_ 23 (d := ds_name_number) rfl
  obtain ⟨fd_news_body, F_news_body⟩ := c.d.def_ 25 (d := ds_news_body) rfl
  obtain ⟨fd_is_way, F_is_way⟩ := c.d.def_ 1 (d := ds_is_way) rfl
  obtain ⟨fd_are_signs, F_are_signs⟩ := c.d.def_ 0 (d := ds_are_signs) rfl
  obtain ⟨fd_made_letter, F_made_letter⟩ := c.d.def_ 2 (d := ds_made_letter) rfl
  obtain ⟨fd_law_letter, F_law_letter⟩ := c.d.def_ 56 (d := ds_law_letter) rfl
  obtain ⟨fd_Joiner_init, F_Joiner_init⟩ := c.d.def_ 7 (d := ds_Joiner_init) rfl
  obtain ⟨fd_letter_signs, F_letter_signs⟩ := c.d.def_ 3 (d := ds_letter_signs) rfl
  obtain ⟨fd_pieces_of, F_pieces_of⟩ := c.d.def_ 6 (d := ds_pieces_of) rfl
  obtain ⟨fd_look_signs, F_look_signs⟩ := c.d.def_ 9 (d := ds_look_signs) rfl
  obtain ⟨fd_sealed, F_sealed⟩ := c.d.def_ 11 (d := ds_sealed) rfl
  obtain ⟨fd_law_turns, F_law_turns⟩ := c.d.def_ 52 (d := ds_law_turns) rfl
  obtain ⟨fd_law_turned, F_law_turned⟩ := c.d.def_ 53 (d := ds_law_turned) rfl
  obtain ⟨fd_sums_of, F_sums_of⟩ := c.d.def_ 10 (d := ds_sums_of) rfl
  obtain ⟨fd_troubles, F_troubles⟩ := c.d.def_ 12 (d := ds_troubles) rfl
  obtain ⟨fd_look_sign, F_look_sign⟩ := c.d.def_ 13 (d := ds_look_sign) rfl
  obtain ⟨fd_power, F_power⟩ := c.d.def_ 14 (d := ds_power) rfl
  obtain ⟨fd_inverse, F_inverse⟩ := c.d.def_ 15 (d := ds_inverse) rfl
  obtain ⟨fd_place_of, F_place_of⟩ := c.d.def_ 38 (d := ds_place_of) rfl
  obtain ⟨fd_one_turned, F_one_turned⟩ := c.d.def_ 39 (d := ds_one_turned) rfl
  obtain ⟨fd_goes_on, F_goes_on⟩ := c.d.def_ 40 (d := ds_goes_on) rfl
  obtain ⟨fd_two_turned, F_two_turned⟩ := c.d.def_ 41 (d := ds_two_turned) rfl
  obtain ⟨fd_mended, F_mended⟩ := c.d.def_ 42 (d := ds_mended) rfl
  obtain ⟨fd_law_sent, F_law_sent⟩ := c.d.def_ 57 (d := ds_law_sent) rfl
  obtain ⟨fd_Joiner_take, F_Joiner_take⟩ := c.d.def_ 8 (d := ds_Joiner_take) rfl
  obtain ⟨fd_taken_from, F_taken_from⟩ := c.d.def_ 4 (d := ds_taken_from) rfl
  obtain ⟨fd_letter_of, F_letter_of⟩ := c.d.def_ 5 (d := ds_letter_of) rfl
  obtain ⟨fd_law_come, F_law_come⟩ := c.d.def_ 58 (d := ds_law_come) rfl
  obtain ⟨fd_SignRow_init, F_SignRow_init⟩ := c.d.def_ 26 (d := ds_SignRow_init) rfl
  obtain ⟨fd_signs_number, F_signs_number⟩ := c.d.def_ 17 (d := ds_signs_number) rfl
  obtain ⟨fd_SignRow_number_here, F_SignRow_number_here⟩ := c.d.def_ 27 (d := ds_SignRow_number_here) rfl
  obtain ⟨fd_name_of, F_name_of⟩ := c.d.def_ 24 (d := ds_name_of) rfl
  obtain ⟨fd_news_read, F_news_read⟩ := c.d.def_ 29 (d := ds_news_read) rfl
  obtain ⟨fd_SignRow_is_through, F_SignRow_is_through⟩ := c.d.def_ 28 (d := ds_SignRow_is_through) rfl
  obtain ⟨fd_news_of, F_news_of⟩ := c.d.def_ 30 (d := ds_news_of) rfl
  obtain ⟨fd_Map_init, F_Map_init⟩ := c.d.def_ 31 (d := ds_Map_init) rfl
  obtain ⟨fd_Map_told_back, F_Map_told_back⟩ := c.d.def_ 34 (d := ds_Map_told_back) rfl
  obtain ⟨fd_Map_wires, F_Map_wires⟩ := c.d.def_ 35 (d := ds_Map_wires) rfl
  obtain ⟨fd_Map_news, F_Map_news⟩ := c.d.def_ 33 (d := ds_Map_news) rfl
  obtain ⟨fd_Map_holder, F_Map_holder⟩ := c.d.def_ 36 (d := ds_Map_holder) rfl
  obtain ⟨fd_Map_hear, F_Map_hear⟩ := c.d.def_ 32 (d := ds_Map_hear) rfl
  obtain ⟨fd_Map_copy, F_Map_copy⟩ := c.d.def_ 37 (d := ds_Map_copy) rfl
  obtain ⟨fd_beside, F_beside⟩ := c.d.def_ 43 (d := ds_beside) rfl
  obtain ⟨fd_lengths_to, F_lengths_to⟩ := c.d.def_ 44 (d := ds_lengths_to) rfl
  obtain ⟨fd_way_of, F_way_of⟩ := c.d.def_ 45 (d := ds_way_of) rfl
  obtain ⟨fd_is_side, F_is_side⟩ := c.d.def_ 46 (d := ds_is_side) rfl
  obtain ⟨fd_way_length, F_way_length⟩ := c.d.def_ 47 (d := ds_way_length) rfl
  obtain ⟨fd_heights_stand, F_heights_stand⟩ := c.d.def_ 48 (d := ds_heights_stand) rfl
  obtain ⟨fd_way_judged, F_way_judged⟩ := c.d.def_ 49 (d := ds_way_judged) rfl
  obtain ⟨fd_law_alike, F_law_alike⟩ := c.d.def_ 59 (d := ds_law_alike) rfl
  obtain ⟨fd_law, F_law⟩ := c.d.def_ 60 (d := ds_law) rfl
  have e := hfa.symm.trans (T.mgl 71)
  cases e
  refine ⟨fd_law, fun s v => FunD.bindsA (ps := ["script"]) F_law (fun _ _ _ _ _ _ us hl => match us, hl with | [_], _ => rfl) s [v] rfl, fun base _ _ => ?_⟩
  have c_law_left : Cal P w K mg base 1 "_law_left" (sp_law_left K) [] := ⟨_, fd_law_left, ["cell"], [], ok_law_left T F_law_left, T.mgl 61, F_law_left.kp, F_law_left.bindsN (fun _ _ _ _ _ _ us hl => match us, hl with | [_], _ => rfl), .nil⟩
  have c_law_next : Cal P w K mg base 1 "_law_next" (sp_law_next K) [] := ⟨_, fd_law_next, ["left", "base"], [], ok_law_next T F_law_next, T.mgl 62, F_law_next.kp, F_law_next.bindsN (fun _ _ _ _ _ _ us hl => match us, hl with | [_, _], _ => rfl), .nil⟩
  have c_law_unlike : Cal P w K mg base 2 "_law_unlike" (sp_law_unlike K) [] := ⟨_, fd_law_unlike, ["left", "most", "size"], [], ok_law_unlike T c_law_next F_law_unlike, T.mgl 65, F_law_unlike.kp, F_law_unlike.bindsN (fun _ _ _ _ _ _ us hl => match us, hl with | [_, _, _], _ => rfl), .nil⟩
  have c_is_house : Cal P w K mg base 1 "is_house" (sp_is_house K) [] := ⟨_, fd_is_house, ["number"], [], ok_is_house T F_is_house, T.mgl 38, F_is_house.kp, F_is_house.bindsN (fun _ _ _ _ _ _ us hl => match us, hl with | [_], _ => rfl), .nil⟩
  have c_look_at_near : Cal P w K mg base 2 "look_at_near" (sp_look_at_near K) [] := ⟨_, fd_look_at_near, ["house", "near"], [], ok_look_at_near T c_is_house F_look_at_near, T.mgl 40, F_look_at_near.kp, F_look_at_near.bindsN (fun _ _ _ _ _ _ us hl => match us, hl with | [_, _], _ => rfl), .nil⟩
  have c_is_name : Cal P w K mg base 1 "is_name" (sp_is_name K) [] := ⟨_, fd_is_name, ["name"], [], ok_is_name T F_is_name, T.mgl 39, F_is_name.kp, F_is_name.bindsN (fun _ _ _ _ _ _ us hl => match us, hl with | [_], _ => rfl), .nil⟩
  have c_look_at_names : Cal P w K mg base 2 "look_at_names" (sp_look_at_names K) [] := ⟨_, fd_look_at_names, ["names"], [], ok_look_at_names T c_is_name F_look_at_names, T.mgl 41, F_look_at_names.kp, F_look_at_names.bindsN (fun _ _ _ _ _ _ us hl => match us, hl with | [_], _ => rfl), .nil⟩
  have c_made_news : Cal P w K mg base 3 "made_news" (sp_made_news K) [] := ⟨_, fd_made_news, ["house", "number", "near", "names"], [], ok_made_news T c_is_house c_look_at_near c_look_at_names F_made_news, T.mgl 42, F_made_news.kp, F_made_news.bindsN (fun _ _ _ _ _ _ us hl => match us, hl with | [_, _, _, _], _ => rfl), .nil⟩
  have c_law_news : Cal P w K mg base 4 "_law_news" (sp_law_news K) [] := ⟨_, fd_law_news, ["left"], [], ok_law_news T c_law_next c_law_unlike c_made_news F_law_news, T.mgl 66, F_law_news.kp, F_law_news.bindsN (fun _ _ _ _ _ _ us hl => match us, hl with | [_], _ => rfl), .nil⟩
  have c_number_signs : Cal P w K mg base 1 "number_signs" (sp_number_signs K) [] := ⟨_, fd_number_signs, ["number", "many"], [], ok_number_signs T F_number_signs, T.mgl 28, F_number_signs.kp, F_number_signs.bindsN (fun _ _ _ _ _ _ us hl => match us, hl with | [_, _], _ => rfl), .nil⟩
  have c_name_number : Cal P w K mg base 1 "name_number" (sp_name_number K) [] := ⟨_, fd_name_number, ["name"], [], ok_name_number T F_name_number, T.mgl 43, F_name_number.kp, F_name_number.bindsN (fun _ _ _ _ _ _ us hl => match us, hl with | [_], _ => rfl), .nil⟩
  have c_news_body : Cal P w K mg base 2 "news_body" (sp_news_body K) [] := ⟨_, fd_news_body, ["news"], [], ok_news_body T c_number_signs c_name_number F_news_body, T.mgl 45, F_news_body.kp, F_news_body.bindsN (fun _ _ _ _ _ _ us hl => match us, hl with | [_], _ => rfl), .nil⟩
  have c_is_way : Cal P w K mg base 1 "is_way" (sp_is_way K) [] := ⟨_, fd_is_way, ["way"], [], ok_is_way T F_is_way, T.mgl 9, F_is_way.kp, F_is_way.bindsN (fun _ _ _ _ _ _ us hl => match us, hl with | [_], _ => rfl), .nil⟩
  have c_are_signs : Cal P w K mg base 1 "are_signs" (sp_are_signs K) [] := ⟨_, fd_are_signs, ["numbers"], [], ok_are_signs T F_are_signs, T.mgl 8, F_are_signs.kp, F_are_signs.bindsN (fun _ _ _ _ _ _ us hl => match us, hl with | [_], _ => rfl), .nil⟩
  have c_made_letter : Cal P w K mg base 2 "made_letter" (sp_made_letter K) [] := ⟨_, fd_made_letter, ["count", "way", "kind", "about", "body"], [], ok_made_letter T c_is_way c_are_signs F_made_letter, T.mgl 10, F_made_letter.kp, F_made_letter.bindsN (fun _ _ _ _ _ _ us hl => match us, hl with | [_, _, _, _, _], _ => rfl), .nil⟩
  have c_law_letter : Cal P w K mg base 5 "_law_letter" (sp_law_letter K) [] := ⟨_, fd_law_letter, ["left", "number"], [], ok_law_letter T c_law_next c_law_unlike c_law_news c_news_body c_made_letter F_law_letter, T.mgl 67, F_law_letter.kp, F_law_letter.bindsN (fun _ _ _ _ _ _ us hl => match us, hl with | [_, _], _ => rfl), .nil⟩
  have c_Joiner : Mak P w K mg base 1 "Joiner" (He.ga K "Joiner") (sp_Joiner_init K) [] := ⟨_, fd_Joiner_init, ["self"], [], T.mkr 74, ok_Joiner_init T F_Joiner_init, T.mgl 72, F_Joiner_init.bindsN (fun _ _ _ _ _ _ us hl => match us, hl with | [_], _ => rfl), .nil⟩
  have c_letter_signs : Cal P w K mg base 1 "letter_signs" (sp_letter_signs K) [] := ⟨_, fd_letter_signs, ["letter"], [], ok_letter_signs T F_letter_signs, T.mgl 11, F_letter_signs.kp, F_letter_signs.bindsN (fun _ _ _ _ _ _ us hl => match us, hl with | [_], _ => rfl), .nil⟩
  have c_pieces_of : Cal P w K mg base 1 "pieces_of" (sp_pieces_of K) [] := ⟨_, fd_pieces_of, ["signs"], [], ok_pieces_of T F_pieces_of, T.mgl 14, F_pieces_of.kp, F_pieces_of.bindsN (fun _ _ _ _ _ _ us hl => match us, hl with | [_], _ => rfl), .nil⟩
  have c_look_signs : Cal P w K mg base 1 "look_signs" (sp_look_signs K) [] := ⟨_, fd_look_signs, ["signs", "many"], [], ok_look_signs T F_look_signs, T.mgl 20, F_look_signs.kp, F_look_signs.bindsN (fun _ _ _ _ _ _ us hl => match us, hl with | [_, _], _ => rfl), .nil⟩
  have c_sealed : Cal P w K mg base 2 "sealed" (sp_sealed K) [] := ⟨_, fd_sealed, ["signs"], [], ok_sealed T c_look_signs F_sealed, T.mgl 22, F_sealed.kp, F_sealed.bindsN (fun _ _ _ _ _ _ us hl => match us, hl with | [_], _ => rfl), .nil⟩
  have c_law_turns : Cal P w K mg base 2 "_law_turns" (sp_law_turns K) [] := ⟨_, fd_law_turns, ["left", "many"], [], ok_law_turns T c_law_next F_law_turns, T.mgl 63, F_law_turns.kp, F_law_turns.bindsN (fun _ _ _ _ _ _ us hl => match us, hl with | [_, _], _ => rfl), .nil⟩
  have c_law_turned : Cal P w K mg base 1 "_law_turned" (sp_law_turned K) [] := ⟨_, fd_law_turned, ["cell", "turns"], [], ok_law_turned T F_law_turned, T.mgl 64, F_law_turned.kp, F_law_turned.bindsN (fun _ _ _ _ _ _ us hl => match us, hl with | [_, _], _ => rfl), .nil⟩
  have c_sums_of : Cal P w K mg base 1 "sums_of" (sp_sums_of K) [] := ⟨_, fd_sums_of, ["signs"], [], ok_sums_of T F_sums_of, T.mgl 21, F_sums_of.kp, F_sums_of.bindsN (fun _ _ _ _ _ _ us hl => match us, hl with | [_], _ => rfl), .nil⟩
  have c_troubles : Cal P w K mg base 2 "troubles" (sp_troubles K) [] := ⟨_, fd_troubles, ["cell"], [], ok_troubles T c_look_signs c_sums_of F_troubles, T.mgl 23, F_troubles.kp, F_troubles.bindsN (fun _ _ _ _ _ _ us hl => match us, hl with | [_], _ => rfl), .nil⟩
  have c_look_sign : Cal P w K mg base 1 "look_sign" (sp_look_sign K) [] := ⟨_, fd_look_sign, ["a"], [], ok_look_sign T F_look_sign, T.mgl 25, F_look_sign.kp, F_look_sign.bindsN (fun _ _ _ _ _ _ us hl => match us, hl with | [_], _ => rfl), .nil⟩
  have c_power : Cal P w K mg base 2 "power" (sp_power K) [] := ⟨_, fd_power, ["a", "k"], [], ok_power T c_look_sign F_power, T.mgl 26, F_power.kp, F_power.bindsN (fun _ _ _ _ _ _ us hl => match us, hl with | [_, _], _ => rfl), .nil⟩
  have c_inverse : Cal P w K mg base 3 "inverse" (sp_inverse K) [] := ⟨_, fd_inverse, ["a"], [], ok_inverse T c_look_sign c_power F_inverse, T.mgl 27, F_inverse.kp, F_inverse.bindsN (fun _ _ _ _ _ _ us hl => match us, hl with | [_], _ => rfl), .nil⟩
  have c_place_of : Cal P w K mg base 1 "place_of" (sp_place_of K) [] := ⟨_, fd_place_of, ["x"], [], ok_place_of T F_place_of, T.mgl 48, F_place_of.kp, F_place_of.bindsN (fun _ _ _ _ _ _ us hl => match us, hl with | [_], _ => rfl), .nil⟩
  have c_one_turned : Cal P w K mg base 4 "one_turned" (sp_one_turned K) [] := ⟨_, fd_one_turned, ["found"], [], ok_one_turned T c_inverse c_place_of F_one_turned, T.mgl 49, F_one_turned.kp, F_one_turned.bindsN (fun _ _ _ _ _ _ us hl => match us, hl with | [_], _ => rfl), .nil⟩
  have c_goes_on : Cal P w K mg base 1 "goes_on" (sp_goes_on K) [] := ⟨_, fd_goes_on, ["found", "s", "p"], [], ok_goes_on T F_goes_on, T.mgl 50, F_goes_on.kp, F_goes_on.bindsN (fun _ _ _ _ _ _ us hl => match us, hl with | [_, _, _], _ => rfl), .nil⟩
  have c_two_turned : Cal P w K mg base 4 "two_turned" (sp_two_turned K) [] := ⟨_, fd_two_turned, ["found"], [], ok_two_turned T c_inverse c_goes_on F_two_turned, T.mgl 51, F_two_turned.kp, F_two_turned.bindsN (fun _ _ _ _ _ _ us hl => match us, hl with | [_], _ => rfl), .nil⟩
  have c_mended : Cal P w K mg base 5 "mended" (sp_mended K) [] := ⟨_, fd_mended, ["cell"], [], ok_mended T c_troubles c_one_turned c_two_turned F_mended, T.mgl 52, F_mended.kp, F_mended.bindsN (fun _ _ _ _ _ _ us hl => match us, hl with | [_], _ => rfl), .nil⟩
  have c_law_sent : Cal P w K mg base 6 "_law_sent" (sp_law_sent K) [] := ⟨_, fd_law_sent, ["piece", "left"], [], ok_law_sent T c_sealed c_law_next c_law_turns c_law_turned c_mended F_law_sent, T.mgl 68, F_law_sent.kp, F_law_sent.bindsN (fun _ _ _ _ _ _ us hl => match us, hl with | [_, _], _ => rfl), .nil⟩
  have c_Joiner_take : Met P w K mg base 2 (He.ga K "Joiner") "take" (sp_Joiner_take K) [] := ⟨_, fd_Joiner_take, ["self", "piece"], [], T.cls 73, T.meth 76, ok_Joiner_take T c_are_signs F_Joiner_take, F_Joiner_take.bindsN (fun _ _ _ _ _ _ us hl => match us, hl with | [_, _], _ => rfl), .nil⟩
  have c_taken_from : Cal P w K mg base 1 "taken_from" (sp_taken_from K) [] := ⟨_, fd_taken_from, ["signs", "first", "many"], [], ok_taken_from T F_taken_from, T.mgl 12, F_taken_from.kp, F_taken_from.bindsN (fun _ _ _ _ _ _ us hl => match us, hl with | [_, _, _], _ => rfl), .nil⟩
  have c_letter_of : Cal P w K mg base 3 "letter_of" (sp_letter_of K) [] := ⟨_, fd_letter_of, ["signs"], [], ok_letter_of T c_are_signs c_taken_from c_made_letter F_letter_of, T.mgl 13, F_letter_of.kp, F_letter_of.bindsN (fun _ _ _ _ _ _ us hl => match us, hl with | [_], _ => rfl), .nil⟩
  have c_law_come : Cal P w K mg base 7 "_law_come" (sp_law_come K) [] := ⟨_, fd_law_come, ["letters", "left"], [], ok_law_come T c_Joiner c_letter_signs c_pieces_of c_law_sent c_Joiner_take c_letter_of F_law_come, T.mgl 69, F_law_come.kp, F_law_come.bindsN (fun _ _ _ _ _ _ us hl => match us, hl with | [_, _], _ => rfl), .nil⟩
  have c_SignRow : Mak P w K mg base 1 "SignRow" (He.ga K "SignRow") (sp_SignRow_init K) [] := ⟨_, fd_SignRow_init, ["self", "signs"], [], T.mkr 79, ok_SignRow_init T F_SignRow_init, T.mgl 77, F_SignRow_init.bindsN (fun _ _ _ _ _ _ us hl => match us, hl with | [_, _], _ => rfl), .nil⟩
  have c_signs_number : Cal P w K mg base 2 "signs_number" (sp_signs_number K) [] := ⟨_, fd_signs_number, ["signs"], [], ok_signs_number T c_look_sign F_signs_number, T.mgl 29, F_signs_number.kp, F_signs_number.bindsN (fun _ _ _ _ _ _ us hl => match us, hl with | [_], _ => rfl), .nil⟩
  have c_SignRow_number_here : Met P w K mg base 3 (He.ga K "SignRow") "number_here" (sp_SignRow_number_here K) [] := ⟨_, fd_SignRow_number_here, ["self", "many"], [], T.cls 78, T.meth 82, ok_SignRow_number_here T c_signs_number F_SignRow_number_here, F_SignRow_number_here.bindsN (fun _ _ _ _ _ _ us hl => match us, hl with | [_, _], _ => rfl), .nil⟩
  have c_name_of : Cal P w K mg base 2 "name_of" (sp_name_of K) [] := ⟨_, fd_name_of, ["number"], [], ok_name_of T c_is_name F_name_of, T.mgl 44, F_name_of.kp, F_name_of.bindsN (fun _ _ _ _ _ _ us hl => match us, hl with | [_], _ => rfl), .nil⟩
  have c_news_read : Cal P w K mg base 4 "news_read" (sp_news_read K) [] := ⟨_, fd_news_read, ["row"], [], ok_news_read T c_SignRow_number_here c_name_of c_made_news F_news_read, T.mgl 46, F_news_read.kp, F_news_read.bindsN (fun _ _ _ _ _ _ us hl => match us, hl with | [_], _ => rfl), .nil⟩
  have c_SignRow_is_through : Met P w K mg base 1 (He.ga K "SignRow") "is_through" (sp_SignRow_is_through K) [] := ⟨_, fd_SignRow_is_through, ["self"], [], T.cls 78, T.meth 83, ok_SignRow_is_through T F_SignRow_is_through, F_SignRow_is_through.bindsN (fun _ _ _ _ _ _ us hl => match us, hl with | [_], _ => rfl), .nil⟩
  have c_news_of : Cal P w K mg base 5 "news_of" (sp_news_of K) [] := ⟨_, fd_news_of, ["body"], [], ok_news_of T c_SignRow c_news_read c_SignRow_is_through c_news_body F_news_of, T.mgl 47, F_news_of.kp, F_news_of.bindsN (fun _ _ _ _ _ _ us hl => match us, hl with | [_], _ => rfl), .nil⟩
  have c_Map : Mak P w K mg base 1 "Map" (He.ga K "Map") (sp_Map_init K) [] := ⟨_, fd_Map_init, ["self"], [], T.mkr 86, ok_Map_init T F_Map_init, T.mgl 84, F_Map_init.bindsN (fun _ _ _ _ _ _ us hl => match us, hl with | [_], _ => rfl), .nil⟩
  have c_Map_told_back : Met P w K mg base 1 (He.ga K "Map") "told_back" (sp_Map_told_back K) [] := ⟨_, fd_Map_told_back, ["self", "house", "other", "pair"], [], T.cls 85, T.meth 90, ok_Map_told_back T F_Map_told_back, F_Map_told_back.bindsN (fun _ _ _ _ _ _ us hl => match us, hl with | [_, _, _, _], _ => rfl), .nil⟩
  have c_Map_wires : Met P w K mg base 2 (He.ga K "Map") "wires" (sp_Map_wires K) [] := ⟨_, fd_Map_wires, ["self"], [], T.cls 85, T.meth 91, ok_Map_wires T c_Map_told_back F_Map_wires, F_Map_wires.bindsN (fun _ _ _ _ _ _ us hl => match us, hl with | [_], _ => rfl), .nil⟩
  have c_Map_news : Met P w K mg base 1 (He.ga K "Map") "news" (sp_Map_news K) [] := ⟨_, fd_Map_news, ["self"], [], T.cls 85, T.meth 89, ok_Map_news T F_Map_news, F_Map_news.bindsN (fun _ _ _ _ _ _ us hl => match us, hl with | [_], _ => rfl), .nil⟩
  have c_Map_holder : Met P w K mg base 1 (He.ga K "Map") "holder" (sp_Map_holder K) [] := ⟨_, fd_Map_holder, ["self", "name"], [], T.cls 85, T.meth 92, ok_Map_holder T F_Map_holder, F_Map_holder.bindsN (fun _ _ _ _ _ _ us hl => match us, hl with | [_, _], _ => rfl), .nil⟩
  have c_Map_hear : Met P w K mg base 1 (He.ga K "Map") "hear" (sp_Map_hear K) [] := ⟨_, fd_Map_hear, ["self", "news"], [], T.cls 85, T.meth 88, ok_Map_hear T F_Map_hear, F_Map_hear.bindsN (fun _ _ _ _ _ _ us hl => match us, hl with | [_, _], _ => rfl), .nil⟩
  have c_Map_copy : Met P w K mg base 3 (He.ga K "Map") "copy" (sp_Map_copy K) [] := ⟨_, fd_Map_copy, ["self"], [], T.cls 85, T.meth 93, ok_Map_copy T c_Map c_Map_hear F_Map_copy, F_Map_copy.bindsN (fun _ _ _ _ _ _ us hl => match us, hl with | [_], _ => rfl), .nil⟩
  have c_beside : Cal P w K mg base 1 "beside" (sp_beside K) [] := ⟨_, fd_beside, ["wires", "house"], [], ok_beside T F_beside, T.mgl 54, F_beside.kp, F_beside.bindsN (fun _ _ _ _ _ _ us hl => match us, hl with | [_, _], _ => rfl), .nil⟩
  have c_lengths_to : Cal P w K mg base 2 "lengths_to" (sp_lengths_to K) [] := ⟨_, fd_lengths_to, ["wires", "goal"], [], ok_lengths_to T c_beside F_lengths_to, T.mgl 55, F_lengths_to.kp, F_lengths_to.bindsN (fun _ _ _ _ _ _ us hl => match us, hl with | [_, _], _ => rfl), .nil⟩
  have c_way_of : Cal P w K mg base 3 "way_of" (sp_way_of K) [] := ⟨_, fd_way_of, ["known", "one", "other"], [], ok_way_of T c_Map_wires c_lengths_to c_beside F_way_of, T.mgl 56, F_way_of.kp, F_way_of.bindsN (fun _ _ _ _ _ _ us hl => match us, hl with | [_, _, _], _ => rfl), .nil⟩
  have c_is_side : Cal P w K mg base 1 "is_side" (sp_is_side K) [] := ⟨_, fd_is_side, ["wires", "one", "other", "side"], [], ok_is_side T F_is_side, T.mgl 57, F_is_side.kp, F_is_side.bindsN (fun _ _ _ _ _ _ us hl => match us, hl with | [_, _, _, _], _ => rfl), .nil⟩
  have c_way_length : Cal P w K mg base 2 "way_length" (sp_way_length K) [] := ⟨_, fd_way_length, ["wires", "way"], [], ok_way_length T c_beside F_way_length, T.mgl 58, F_way_length.kp, F_way_length.bindsN (fun _ _ _ _ _ _ us hl => match us, hl with | [_, _], _ => rfl), .nil⟩
  have c_heights_stand : Cal P w K mg base 3 "heights_stand" (sp_heights_stand K) [] := ⟨_, fd_heights_stand, ["wires", "other", "heights"], [], ok_heights_stand T c_lengths_to F_heights_stand, T.mgl 59, F_heights_stand.kp, F_heights_stand.bindsN (fun _ _ _ _ _ _ us hl => match us, hl with | [_, _, _], _ => rfl), .nil⟩
  have c_way_judged : Cal P w K mg base 4 "way_judged" (sp_way_judged K) [] := ⟨_, fd_way_judged, ["known", "one", "other", "answer"], [], ok_way_judged T c_Map_wires c_is_side c_way_length c_heights_stand F_way_judged, T.mgl 60, F_way_judged.kp, F_way_judged.bindsN (fun _ _ _ _ _ _ us hl => match us, hl with | [_, _, _, _], _ => rfl), .nil⟩
  have c_law_alike : Cal P w K mg base 5 "_law_alike" (sp_law_alike K) [] := ⟨_, fd_law_alike, ["one", "other"], [], ok_law_alike T c_Map_news c_Map_wires c_Map_holder c_way_of c_way_judged F_law_alike, T.mgl 70, F_law_alike.kp, F_law_alike.bindsN (fun _ _ _ _ _ _ us hl => match us, hl with | [_, _], _ => rfl), .nil⟩
  exact ok_law T c_law_left c_law_letter c_law_come c_news_of c_Map c_Map_wires c_Map_news c_Map_holder c_Map_copy c_Map_hear c_news_body c_law_alike F_law
end K85
end
open PySem PySem.W PySem.Calls PyProof.Rows
set_option maxHeartbeats 0 in
theorem PySem.Challenge.cw_stormpost_k85_whole_letters_through_cell_holds : PySem.Challenge.rw_stormpost_k85_whole_letters_through_cell.Holds := by
  w_on; o_law
  refine HandSHeadRun.head_any (r := OpenLaw.row PySem.Challenge.rw_stormpost_k85_whole_letters_through_cell) (q := K85H.qv) (H := K85.hookX) (ob := K85H.ob) (M := 30000) (loose := K85H.names) (d := HandSHeadRun.topDef (OpenLaw.row PySem.Challenge.rw_stormpost_k85_whole_letters_through_cell).prog 90) (kwd := []) K85H.ob_eq
    (by kernel_rfl) (fun s => by kernel_rfl) K85H.run (by kernel_rfl) (by kernel_rfl) (by kernel_rfl) (by rfl) (by first | assumption | decide +kernel) (by decide +kernel) ⟨rfl, rfl, rfl, rfl, rfl, by decide +kernel⟩ ?hw ?hc
  case hw => w_witness2
  case hc =>
    refine L2.walk_ofE (l := PySem.Challenge.rw_stormpost_k85_whole_letters_through_cell) (n := 63) (k := 8) (x := "script") (CX := L2.CX0) rfl (by decide) (by kernel_rfl) ⟨rfl, by decide, by decide⟩ ?F (fun _ _ _ _ z => z)
    intro w mg fa h Y G hmg0
    obtain ⟨K, KX, c⟩ := Y
    have hmg : mg ("law" : PySem.Str) = some (.ref fa) := by
      have e : (HandSHeadRun.topDef (OpenLaw.row PySem.Challenge.rw_stormpost_k85_whole_letters_through_cell).prog 90).name = ("law" : PySem.Str) := by kernel_rfl
      rw [← e]
      exact hmg0
    obtain ⟨fd, hb, hF⟩ := K85.facts (P := (PySem.Challenge.rw_stormpost_k85_whole_letters_through_cell).prog) (w := w) KX G hmg c
    exact ⟨K, fd, K85.sp_law K, KX, hb, fun H a ns hl _ hS => ⟨a, ns, rfl, hS, hl, fun _ => rfl⟩, hF⟩
