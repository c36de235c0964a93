import PyProof.Rows.All
import Wide.All
import OpenK.AllK
import Wide.FinOn
import KE.KStateDown
import HandS.ForMost
import HandS.Exc
import HandS.TryOnly
import HandS.TryMany
import HandS.ExcOwn
import HandS.ExcIs
import HandS.WordsExc
import HandS.IsInst
import HandS.More
import HandS.Set
import HandS.SetKeys
import HandS.Strs
import HandS.SortInts
import HandS.Flow
import HandS.Steps
import HandS.Walk
import HandS.Rev
import HandS.OwnEq
import PyProof.Rows.SortShellAny
import HandS.Head0
import HandS.Head1
import HandS.Head2
import HandS.HeadEnd
import HandS.HeadHook1
import HandS.HeadHook2
import PySem.Challenge.RW_keptrow_k10_deeds_told
set_option Elab.async false
set_option linter.all false
set_option maxRecDepth 100000
set_option maxHeartbeats 4000000
set_option maxHeartbeats 4000000
namespace Kr
open PySem PySem.Spec PyProof.Rows L2
/-! ### the text by places -/
def top (i : Nat) : Stmt := PySem.Challenge.pw_keptrow_k10_deeds_told.main.body.getD i (.Pass ⟨0, 0, 0, 0⟩)
abbrev s_is_head : Stmt := top 14
abbrev s_is_name : Stmt := top 15
abbrev s_is_whole : Stmt := top 16
abbrev s_is_value : Stmt := top 17
abbrev s_is_under : Stmt := top 18
abbrev s_place_in : Stmt := top 20
abbrev s_Record_init : Stmt := inClass (top 22) 0
abbrev s_Record_written : Stmt := inClass (top 22) 1
abbrev s_Record_looked : Stmt := inClass (top 22) 2
abbrev s_newest : Stmt := top 24
abbrev s_Shelf_init : Stmt := inClass (top 25) 0
abbrev s_Shelf_known : Stmt := inClass (top 25) 1
abbrev s_Shelf_going : Stmt := inClass (top 25) 2
abbrev s_Shelf_begin : Stmt := inClass (top 25) 3
abbrev s_Shelf_seen_by : Stmt := inClass (top 25) 4
abbrev s_Shelf_read : Stmt := inClass (top 25) 5
abbrev s_Shelf_under : Stmt := inClass (top 25) 6
abbrev s_Shelf_write : Stmt := inClass (top 25) 7
abbrev s_Shelf_made : Stmt := inClass (top 25) 8
abbrev s_Shelf_back : Stmt := inClass (top 25) 9
abbrev s_Shelf_ahead_of : Stmt := inClass (top 25) 10
abbrev s_Shelf_behind : Stmt := inClass (top 25) 11
abbrev s_Shelf_keep : Stmt := inClass (top 25) 12
abbrev s_Shelf_drop : Stmt := inClass (top 25) 13
abbrev s_Shelf_order : Stmt := inClass (top 25) 14
abbrev s_Shelf_moment : Stmt := inClass (top 25) 15
abbrev s_Shelf_deeds : Stmt := inClass (top 25) 17
abbrev s_Shelf_value : Stmt := inClass (top 25) 18
abbrev s_Shelf_versions : Stmt := inClass (top 25) 19
abbrev s_l_whole : Stmt := top 27
abbrev s_l_cell_at : Stmt := top 28
abbrev s_l_mixed : Stmt := top 29
abbrev s_l_name_by : Stmt := top 30
abbrev s_l_twin : Stmt := top 31
abbrev s_l_pool : Stmt := top 32
abbrev s_l_value_by : Stmt := top 33
abbrev s_l_same : Stmt := top 34
abbrev s_l_pairs : Stmt := top 35
abbrev s_l_deed_by : Stmt := top 36
abbrev s_l_tried : Stmt := top 37
abbrev s_l_short : Stmt := top 38
abbrev s_l_played : Stmt := top 39
abbrev s_l_deed_same : Stmt := top 40
abbrev s_l_deeds_same : Stmt := top 41
abbrev s_l_copied : Stmt := top 42
abbrev s_l_changed : Stmt := top 43
abbrev s_law : Stmt := top 44
/-! ### what the head is asked -/
def d_is_head : He.DefD := ⟨("is_head", none), "is_head", "is_head", defArgs s_is_head, defBody s_is_head, defScope s_is_head, [], []⟩
def d_is_name : He.DefD := ⟨("is_name", none), "is_name", "is_name", defArgs s_is_name, defBody s_is_name, defScope s_is_name, [], []⟩
def d_is_whole : He.DefD := ⟨("is_whole", none), "is_whole", "is_whole", defArgs s_is_whole, defBody s_is_whole, defScope s_is_whole, [], []⟩
def d_is_value : He.DefD := ⟨("is_value", none), "is_value", "is_value", defArgs s_is_value, defBody s_is_value, defScope s_is_value, [], []⟩
def d_is_under : He.DefD := ⟨("is_under", none), "is_under", "is_under", defArgs s_is_under, defBody s_is_under, defScope s_is_under, [], []⟩
def d_place_in : He.DefD := ⟨("place_in", none), "place_in", "place_in", defArgs s_place_in, defBody s_place_in, defScope s_place_in, [], []⟩
def d_Record_init : He.DefD := ⟨("Record", some "__init__"), "__init__", "Record.__init__", defArgs s_Record_init, defBody s_Record_init, defScope s_Record_init, [], []⟩
def d_Record_written : He.DefD := ⟨("Record", some "written"), "written", "Record.written", defArgs s_Record_written, defBody s_Record_written, defScope s_Record_written, [], []⟩
def d_Record_looked : He.DefD := ⟨("Record", some "looked"), "looked", "Record.looked", defArgs s_Record_looked, defBody s_Record_looked, defScope s_Record_looked, [], []⟩
def d_newest : He.DefD := ⟨("newest", none), "newest", "newest", defArgs s_newest, defBody s_newest, defScope s_newest, [], []⟩
def d_Shelf_init : He.DefD := ⟨("Shelf", some "__init__"), "__init__", "Shelf.__init__", defArgs s_Shelf_init, defBody s_Shelf_init, defScope s_Shelf_init, [], []⟩
def d_Shelf_known : He.DefD := ⟨("Shelf", some "known"), "known", "Shelf.known", defArgs s_Shelf_known, defBody s_Shelf_known, defScope s_Shelf_known, [], []⟩
def d_Shelf_going : He.DefD := ⟨("Shelf", some "going"), "going", "Shelf.going", defArgs s_Shelf_going, defBody s_Shelf_going, defScope s_Shelf_going, [], []⟩
def d_Shelf_begin : He.DefD := ⟨("Shelf", some "begin"), "begin", "Shelf.begin", defArgs s_Shelf_begin, defBody s_Shelf_begin, defScope s_Shelf_begin, [], []⟩
def d_Shelf_seen_by : He.DefD := ⟨("Shelf", some "seen_by"), "seen_by", "Shelf.seen_by", defArgs s_Shelf_seen_by, defBody s_Shelf_seen_by, defScope s_Shelf_seen_by, [], []⟩
def d_Shelf_read : He.DefD := ⟨("Shelf", some "read"), "read", "Shelf.read", defArgs s_Shelf_read, defBody s_Shelf_read, defScope s_Shelf_read, [], []⟩
def d_Shelf_under : He.DefD := ⟨("Shelf", some "under"), "under", "Shelf.under", defArgs s_Shelf_under, defBody s_Shelf_under, defScope s_Shelf_under, [], []⟩
def d_Shelf_write : He.DefD := ⟨("Shelf", some "write"), "write", "Shelf.write", defArgs s_Shelf_write, defBody s_Shelf_write, defScope s_Shelf_write, [], []⟩
def d_Shelf_made : He.DefD := ⟨("Shelf", some "made"), "made", "Shelf.made", defArgs s_Shelf_made, defBody s_Shelf_made, defScope s_Shelf_made, [], []⟩
def d_Shelf_back : He.DefD := ⟨("Shelf", some "back"), "back", "Shelf.back", defArgs s_Shelf_back, defBody s_Shelf_back, defScope s_Shelf_back, [], []⟩
def d_Shelf_ahead_of : He.DefD := ⟨("Shelf", some "ahead_of"), "ahead_of", "Shelf.ahead_of", defArgs s_Shelf_ahead_of, defBody s_Shelf_ahead_of, defScope s_Shelf_ahead_of, [], []⟩
def d_Shelf_behind : He.DefD := ⟨("Shelf", some "behind"), "behind", "Shelf.behind", defArgs s_Shelf_behind, defBody s_Shelf_behind, defScope s_Shelf_behind, [], []⟩
def d_Shelf_keep : He.DefD := ⟨("Shelf", some "keep"), "keep", "Shelf.keep", defArgs s_Shelf_keep, defBody s_Shelf_keep, defScope s_Shelf_keep, [], []⟩
def d_Shelf_drop : He.DefD := ⟨("Shelf", some "drop"), "drop", "Shelf.drop", defArgs s_Shelf_drop, defBody s_Shelf_drop, defScope s_Shelf_drop, [], []⟩
def d_Shelf_order : He.DefD := ⟨("Shelf", some "order"), "order", "Shelf.order", defArgs s_Shelf_order, defBody s_Shelf_order, defScope s_Shelf_order, [], []⟩
def d_Shelf_moment : He.DefD := ⟨("Shelf", some "moment"), "moment", "Shelf.moment", defArgs s_Shelf_moment, defBody s_Shelf_moment, defScope s_Shelf_moment, [], []⟩
def d_Shelf_deeds : He.DefD := ⟨("Shelf", some "deeds"), "deeds", "Shelf.deeds", defArgs s_Shelf_deeds, defBody s_Shelf_deeds, defScope s_Shelf_deeds, [], []⟩
def d_Shelf_value : He.DefD := ⟨("Shelf", some "value"), "value", "Shelf.value", defArgs s_Shelf_value, defBody s_Shelf_value, defScope s_Shelf_value, [], []⟩
def d_Shelf_versions : He.DefD := ⟨("Shelf", some "versions"), "versions", "Shelf.versions", defArgs s_Shelf_versions, defBody s_Shelf_versions, defScope s_Shelf_versions, [], []⟩
def d_l_whole : He.DefD := ⟨("_law_whole", none), "_law_whole", "_law_whole", defArgs s_l_whole, defBody s_l_whole, defScope s_l_whole, [], []⟩
def d_l_cell_at : He.DefD := ⟨("_law_cell_at", none), "_law_cell_at", "_law_cell_at", defArgs s_l_cell_at, defBody s_l_cell_at, defScope s_l_cell_at, [], []⟩
def d_l_mixed : He.DefD := ⟨("_law_mixed", none), "_law_mixed", "_law_mixed", defArgs s_l_mixed, defBody s_l_mixed, defScope s_l_mixed, [], []⟩
def d_l_name_by : He.DefD := ⟨("_law_name_by", none), "_law_name_by", "_law_name_by", defArgs s_l_name_by, defBody s_l_name_by, defScope s_l_name_by, [], []⟩
def d_l_twin : He.DefD := ⟨("_law_twin", none), "_law_twin", "_law_twin", defArgs s_l_twin, defBody s_l_twin, defScope s_l_twin, [], []⟩
def d_l_pool : He.DefD := ⟨("_law_pool", none), "_law_pool", "_law_pool", defArgs s_l_pool, defBody s_l_pool, defScope s_l_pool, [], []⟩
def d_l_value_by : He.DefD := ⟨("_law_value_by", none), "_law_value_by", "_law_value_by", defArgs s_l_value_by, defBody s_l_value_by, defScope s_l_value_by, [], []⟩
def d_l_same : He.DefD := ⟨("_law_same", none), "_law_same", "_law_same", defArgs s_l_same, defBody s_l_same, defScope s_l_same, [], []⟩
def d_l_pairs : He.DefD := ⟨("_law_pairs", none), "_law_pairs", "_law_pairs", defArgs s_l_pairs, defBody s_l_pairs, defScope s_l_pairs, [], []⟩
def d_l_deed_by : He.DefD := ⟨("_law_deed_by", none), "_law_deed_by", "_law_deed_by", defArgs s_l_deed_by, defBody s_l_deed_by, defScope s_l_deed_by, [], []⟩
def d_l_tried : He.DefD := ⟨("_law_tried", none), "_law_tried", "_law_tried", defArgs s_l_tried, defBody s_l_tried, defScope s_l_tried, [], []⟩
def d_l_short : He.DefD := ⟨("_law_short", none), "_law_short", "_law_short", defArgs s_l_short, defBody s_l_short, defScope s_l_short, [], []⟩
def d_l_played : He.DefD := ⟨("_law_played", none), "_law_played", "_law_played", defArgs s_l_played, defBody s_l_played, defScope s_l_played, [], []⟩
def d_l_deed_same : He.DefD := ⟨("_law_deed_same", none), "_law_deed_same", "_law_deed_same", defArgs s_l_deed_same, defBody s_l_deed_same, defScope s_l_deed_same, [], []⟩
def d_l_deeds_same : He.DefD := ⟨("_law_deeds_same", none), "_law_deeds_same", "_law_deeds_same", defArgs s_l_deeds_same, defBody s_l_deeds_same, defScope s_l_deeds_same, [], []⟩
def d_l_copied : He.DefD := ⟨("_law_copied", none), "_law_copied", "_law_copied", defArgs s_l_copied, defBody s_l_copied, defScope s_l_copied, [], []⟩
def d_l_changed : He.DefD := ⟨("_law_changed", none), "_law_changed", "_law_changed", defArgs s_l_changed, defBody s_l_changed, defScope s_l_changed, [], []⟩
def d_law : He.DefD := ⟨("law", none), "law", "law", defArgs s_law, defBody s_law, defScope s_law, [], []⟩
def fn0 : List He.DefD := [d_is_head, d_is_name, d_is_whole, d_is_value, d_is_under, d_place_in, d_Record_init, d_Record_written, d_Record_looked, d_newest, d_Shelf_init, d_Shelf_known]
def fn1 : List He.DefD := [d_Shelf_going, d_Shelf_begin, d_Shelf_seen_by, d_Shelf_read, d_Shelf_under, d_Shelf_write, d_Shelf_made, d_Shelf_back, d_Shelf_ahead_of, d_Shelf_behind, d_Shelf_keep, d_Shelf_drop]
def fn2 : List He.DefD := [d_Shelf_order, d_Shelf_moment, d_Shelf_deeds, d_Shelf_value, d_Shelf_versions, d_l_whole, d_l_cell_at, d_l_mixed, d_l_name_by, d_l_twin, d_l_pool, d_l_value_by]
def fn3 : List He.DefD := [d_l_same, d_l_pairs, d_l_deed_by, d_l_tried, d_l_short, d_l_played, d_l_deed_same, d_l_deeds_same, d_l_copied, d_l_changed, d_law]
def fn : List He.DefD := fn0 ++ (fn1 ++ (fn2 ++ (fn3)))
abbrev fa0 : List He.Fa := [.glo "DealError", .glo "NoDealing", .glo "Over", .glo "NoName", .glo "NoValue", .glo "NoMark", .glo "Taken", .glo "Late", .glo "Crossed", .str "SIGNS" "abcdefghijklmnopqrstuvwxyz0123456789.", .int "MOST" 12, .glo "is_head"]
abbrev fa1 : List He.Fa := [.glo "is_name", .glo "is_whole", .glo "is_value", .glo "is_under", .glo "place_in", .glo "Record", .glo "newest", .glo "Shelf", .glo "_law_whole", .glo "_law_cell_at", .glo "_law_mixed", .glo "_law_name_by"]
abbrev fa2 : List He.Fa := [.glo "_law_twin", .glo "_law_pool", .glo "_law_value_by", .glo "_law_same", .glo "_law_pairs", .glo "_law_deed_by", .glo "_law_tried", .glo "_law_short", .glo "_law_played", .glo "_law_deed_same", .glo "_law_deeds_same", .glo "_law_copied"]
abbrev fa3 : List He.Fa := [.glo "_law_changed", .glo "law", .free "bool", .free "enumerate", .free "int", .free "isinstance", .free "len", .free "list", .free "min", .free "range", .free "set", .free "sorted"]
abbrev fa4 : List He.Fa := [.free "str", .free "tuple", .cls "Record", .noat "Record" "start", .noat "Record" "stamp", .noat "Record" "mood", .noat "Record" "done", .noat "Record" "puts", .noat "Record" "seen", .noat "Record" "heads", .meth "Record" "written", .meth "Record" "looked"]
abbrev fa5 : List He.Fa := [.mkr "Record", .cls "Shelf", .noat "Shelf" "records", .noat "Shelf" "row", .noat "Shelf" "rows", .meth "Shelf" "known", .meth "Shelf" "going", .meth "Shelf" "begin", .meth "Shelf" "seen_by", .meth "Shelf" "read", .meth "Shelf" "under", .meth "Shelf" "write"]
abbrev fa6 : List He.Fa := [.meth "Shelf" "made", .meth "Shelf" "back", .meth "Shelf" "ahead_of", .meth "Shelf" "behind", .meth "Shelf" "keep", .meth "Shelf" "drop", .meth "Shelf" "order", .meth "Shelf" "moment", .meth "Shelf" "ended", .meth "Shelf" "deeds", .meth "Shelf" "value", .meth "Shelf" "versions"]
abbrev fa7 : List He.Fa := [.meth "Shelf" "sweep", .mkr "Shelf", .exc "DealError", .exc "NoDealing", .exc "Over", .exc "NoName", .exc "NoValue", .exc "NoMark", .exc "Taken", .exc "Late", .exc "Crossed", .exm "DealError" "DealError" true]
abbrev fa8 : List He.Fa := [.exm "NoDealing" "DealError" true, .exm "Over" "DealError" true, .exm "NoName" "DealError" true, .exm "NoValue" "DealError" true, .exm "NoMark" "DealError" true, .exm "Taken" "DealError" true, .exm "Late" "DealError" true, .exm "Crossed" "DealError" true]
abbrev fa : List He.Fa := fa0 ++ (fa1 ++ (fa2 ++ (fa3 ++ (fa4 ++ (fa5 ++ (fa6 ++ (fa7 ++ (fa8))))))))
def loose0 : List PySem.Str := ["_wall", "DealError", "NoDealing", "Over", "NoName", "NoValue", "NoMark", "Taken", "Late", "Crossed", "SIGNS", "MOST"]
def loose1 : List PySem.Str := ["is_head", "is_name", "is_whole", "is_value", "is_under", "place_in", "Record", "newest", "Shelf", "_law_whole", "_law_cell_at", "_law_mixed"]
def loose2 : List PySem.Str := ["_law_name_by", "_law_twin", "_law_pool", "_law_value_by", "_law_same", "_law_pairs", "_law_deed_by", "_law_tried", "_law_short", "_law_played", "_law_deed_same", "_law_deeds_same"]
def loose3 : List PySem.Str := ["_law_copied", "_law_changed"]
def loose : List PySem.Str := loose0 ++ (loose1 ++ (loose2 ++ (loose3)))
/-! ### what is known of the top, for the walks -/
structure Txt (K : PySem.W.Frag) (mg : Str → Option Value) : Prop where
  c : He.SaysD fa fn K
  g : ∃ h : Heap, K.In h ∧ h.Ns mainGlobals mg
def OkD (P : Program) (w : World) (K : PySem.W.Frag) (mg : Str → Option Value) (base : Heap) (CX : CXT) (k : Nat) (p : Str × Option Str) (ps : List Str) (sp : Sp) : Prop :=
  ∃ fd, FnOk P w K mg base CX k (He.fAd K p) fd ps sp ∧ Binds K fd ps [] ∧ PySem.W.keepIn K (.ref (He.fAd K p)) = true
section
variable {K : PySem.W.Frag} {mg : Str → Option Value}
theorem Txt.g_DealError (T : Txt K mg) : mg "DealError" = some (.ref (He.ga K "DealError")) := let ⟨_, X, G⟩ := T.g; He.glo_ok X G (T.c.fact 0 (f := .glo "DealError") rfl)
theorem Txt.g_NoDealing (T : Txt K mg) : mg "NoDealing" = some (.ref (He.ga K "NoDealing")) := let ⟨_, X, G⟩ := T.g; He.glo_ok X G (T.c.fact 1 (f := .glo "NoDealing") rfl)
theorem Txt.g_Over (T : Txt K mg) : mg "Over" = some (.ref (He.ga K "Over")) := let ⟨_, X, G⟩ := T.g; He.glo_ok X G (T.c.fact 2 (f := .glo "Over") rfl)
theorem Txt.g_NoName (T : Txt K mg) : mg "NoName" = some (.ref (He.ga K "NoName")) := let ⟨_, X, G⟩ := T.g; He.glo_ok X G (T.c.fact 3 (f := .glo "NoName") rfl)
theorem Txt.g_NoValue (T : Txt K mg) : mg "NoValue" = some (.ref (He.ga K "NoValue")) := let ⟨_, X, G⟩ := T.g; He.glo_ok X G (T.c.fact 4 (f := .glo "NoValue") rfl)
theorem Txt.g_NoMark (T : Txt K mg) : mg "NoMark" = some (.ref (He.ga K "NoMark")) := let ⟨_, X, G⟩ := T.g; He.glo_ok X G (T.c.fact 5 (f := .glo "NoMark") rfl)
theorem Txt.g_Taken (T : Txt K mg) : mg "Taken" = some (.ref (He.ga K "Taken")) := let ⟨_, X, G⟩ := T.g; He.glo_ok X G (T.c.fact 6 (f := .glo "Taken") rfl)
theorem Txt.g_Late (T : Txt K mg) : mg "Late" = some (.ref (He.ga K "Late")) := let ⟨_, X, G⟩ := T.g; He.glo_ok X G (T.c.fact 7 (f := .glo "Late") rfl)
theorem Txt.g_Crossed (T : Txt K mg) : mg "Crossed" = some (.ref (He.ga K "Crossed")) := let ⟨_, X, G⟩ := T.g; He.glo_ok X G (T.c.fact 8 (f := .glo "Crossed") rfl)
theorem Txt.n_SIGNS (T : Txt K mg) : ∃ t, mg "SIGNS" = some (.str "abcdefghijklmnopqrstuvwxyz0123456789." t) := let ⟨_, X, G⟩ := T.g; He.str_ok X G (T.c.fact 9 (f := .str "SIGNS" "abcdefghijklmnopqrstuvwxyz0123456789.") rfl)
theorem Txt.n_MOST (T : Txt K mg) : ∃ t, mg "MOST" = some (.int 12 t) := let ⟨_, X, G⟩ := T.g; He.int_ok X G (T.c.fact 10 (f := .int "MOST" 12) rfl)
theorem Txt.g_is_head (T : Txt K mg) : mg "is_head" = some (.ref (He.ga K "is_head")) := let ⟨_, X, G⟩ := T.g; He.glo_ok X G (T.c.fact 11 (f := .glo "is_head") rfl)
theorem Txt.g_is_name (T : Txt K mg) : mg "is_name" = some (.ref (He.ga K "is_name")) := let ⟨_, X, G⟩ := T.g; He.glo_ok X G (T.c.fact 12 (f := .glo "is_name") rfl)
theorem Txt.g_is_whole (T : Txt K mg) : mg "is_whole" = some (.ref (He.ga K "is_whole")) := let ⟨_, X, G⟩ := T.g; He.glo_ok X G (T.c.fact 13 (f := .glo "is_whole") rfl)
theorem Txt.g_is_value (T : Txt K mg) : mg "is_value" = some (.ref (He.ga K "is_value")) := let ⟨_, X, G⟩ := T.g; He.glo_ok X G (T.c.fact 14 (f := .glo "is_value") rfl)
theorem Txt.g_is_under (T : Txt K mg) : mg "is_under" = some (.ref (He.ga K "is_under")) := let ⟨_, X, G⟩ := T.g; He.glo_ok X G (T.c.fact 15 (f := .glo "is_under") rfl)
theorem Txt.g_place_in (T : Txt K mg) : mg "place_in" = some (.ref (He.ga K "place_in")) := let ⟨_, X, G⟩ := T.g; He.glo_ok X G (T.c.fact 16 (f := .glo "place_in") rfl)
theorem Txt.g_Record (T : Txt K mg) : mg "Record" = some (.ref (He.ga K "Record")) := let ⟨_, X, G⟩ := T.g; He.glo_ok X G (T.c.fact 17 (f := .glo "Record") rfl)
theorem Txt.g_newest (T : Txt K mg) : mg "newest" = some (.ref (He.ga K "newest")) := let ⟨_, X, G⟩ := T.g; He.glo_ok X G (T.c.fact 18 (f := .glo "newest") rfl)
theorem Txt.g_Shelf (T : Txt K mg) : mg "Shelf" = some (.ref (He.ga K "Shelf")) := let ⟨_, X, G⟩ := T.g; He.glo_ok X G (T.c.fact 19 (f := .glo "Shelf") rfl)
theorem Txt.g__law_whole (T : Txt K mg) : mg "_law_whole" = some (.ref (He.ga K "_law_whole")) := let ⟨_, X, G⟩ := T.g; He.glo_ok X G (T.c.fact 20 (f := .glo "_law_whole") rfl)
theorem Txt.g__law_cell_at (T : Txt K mg) : mg "_law_cell_at" = some (.ref (He.ga K "_law_cell_at")) := let ⟨_, X, G⟩ := T.g; He.glo_ok X G (T.c.fact 21 (f := .glo "_law_cell_at") rfl)
theorem Txt.g__law_mixed (T : Txt K mg) : mg "_law_mixed" = some (.ref (He.ga K "_law_mixed")) := let ⟨_, X, G⟩ := T.g; He.glo_ok X G (T.c.fact 22 (f := .glo "_law_mixed") rfl)
theorem Txt.g__law_name_by (T : Txt K mg) : mg "_law_name_by" = some (.ref (He.ga K "_law_name_by")) := let ⟨_, X, G⟩ := T.g; He.glo_ok X G (T.c.fact 23 (f := .glo "_law_name_by") rfl)
theorem Txt.g__law_twin (T : Txt K mg) : mg "_law_twin" = some (.ref (He.ga K "_law_twin")) := let ⟨_, X, G⟩ := T.g; He.glo_ok X G (T.c.fact 24 (f := .glo "_law_twin") rfl)
theorem Txt.g__law_pool (T : Txt K mg) : mg "_law_pool" = some (.ref (He.ga K "_law_pool")) := let ⟨_, X, G⟩ := T.g; He.glo_ok X G (T.c.fact 25 (f := .glo "_law_pool") rfl)
theorem Txt.g__law_value_by (T : Txt K mg) : mg "_law_value_by" = some (.ref (He.ga K "_law_value_by")) := let ⟨_, X, G⟩ := T.g; He.glo_ok X G (T.c.fact 26 (f := .glo "_law_value_by") rfl)
theorem Txt.g__law_same (T : Txt K mg) : mg "_law_same" = some (.ref (He.ga K "_law_same")) := let ⟨_, X, G⟩ := T.g; He.glo_ok X G (T.c.fact 27 (f := .glo "_law_same") rfl)
theorem Txt.g__law_pairs (T : Txt K mg) : mg "_law_pairs" = some (.ref (He.ga K "_law_pairs")) := let ⟨_, X, G⟩ := T.g; He.glo_ok X G (T.c.fact 28 (f := .glo "_law_pairs") rfl)
theorem Txt.g__law_deed_by (T : Txt K mg) : mg "_law_deed_by" = some (.ref (He.ga K "_law_deed_by")) := let ⟨_, X, G⟩ := T.g; He.glo_ok X G (T.c.fact 29 (f := .glo "_law_deed_by") rfl)
theorem Txt.g__law_tried (T : Txt K mg) : mg "_law_tried" = some (.ref (He.ga K "_law_tried")) := let ⟨_, X, G⟩ := T.g; He.glo_ok X G (T.c.fact 30 (f := .glo "_law_tried") rfl)
theorem Txt.g__law_short (T : Txt K mg) : mg "_law_short" = some (.ref (He.ga K "_law_short")) := let ⟨_, X, G⟩ := T.g; He.glo_ok X G (T.c.fact 31 (f := .glo "_law_short") rfl)
theorem Txt.g__law_played (T : Txt K mg) : mg "_law_played" = some (.ref (He.ga K "_law_played")) := let ⟨_, X, G⟩ := T.g; He.glo_ok X G (T.c.fact 32 (f := .glo "_law_played") rfl)
theorem Txt.g__law_deed_same (T : Txt K mg) : mg "_law_deed_same" = some (.ref (He.ga K "_law_deed_same")) := let ⟨_, X, G⟩ := T.g; He.glo_ok X G (T.c.fact 33 (f := .glo "_law_deed_same") rfl)
theorem Txt.g__law_deeds_same (T : Txt K mg) : mg "_law_deeds_same" = some (.ref (He.ga K "_law_deeds_same")) := let ⟨_, X, G⟩ := T.g; He.glo_ok X G (T.c.fact 34 (f := .glo "_law_deeds_same") rfl)
theorem Txt.g__law_copied (T : Txt K mg) : mg "_law_copied" = some (.ref (He.ga K "_law_copied")) := let ⟨_, X, G⟩ := T.g; He.glo_ok X G (T.c.fact 35 (f := .glo "_law_copied") rfl)
theorem Txt.g__law_changed (T : Txt K mg) : mg "_law_changed" = some (.ref (He.ga K "_law_changed")) := let ⟨_, X, G⟩ := T.g; He.glo_ok X G (T.c.fact 36 (f := .glo "_law_changed") rfl)
theorem Txt.g_law (T : Txt K mg) : mg "law" = some (.ref (He.ga K "law")) := let ⟨_, X, G⟩ := T.g; He.glo_ok X G (T.c.fact 37 (f := .glo "law") rfl)
theorem Txt.b_bool (T : Txt K mg) : mg "bool" = none := let ⟨_, X, G⟩ := T.g; He.free_ok X G (T.c.fact 38 (f := .free "bool") rfl)
theorem Txt.b_enumerate (T : Txt K mg) : mg "enumerate" = none := let ⟨_, X, G⟩ := T.g; He.free_ok X G (T.c.fact 39 (f := .free "enumerate") rfl)
theorem Txt.b_int (T : Txt K mg) : mg "int" = none := let ⟨_, X, G⟩ := T.g; He.free_ok X G (T.c.fact 40 (f := .free "int") rfl)
theorem Txt.b_isinstance (T : Txt K mg) : mg "isinstance" = none := let ⟨_, X, G⟩ := T.g; He.free_ok X G (T.c.fact 41 (f := .free "isinstance") rfl)
theorem Txt.b_len (T : Txt K mg) : mg "len" = none := let ⟨_, X, G⟩ := T.g; He.free_ok X G (T.c.fact 42 (f := .free "len") rfl)
theorem Txt.b_list (T : Txt K mg) : mg "list" = none := let ⟨_, X, G⟩ := T.g; He.free_ok X G (T.c.fact 43 (f := .free "list") rfl)
theorem Txt.b_min (T : Txt K mg) : mg "min" = none := let ⟨_, X, G⟩ := T.g; He.free_ok X G (T.c.fact 44 (f := .free "min") rfl)
theorem Txt.b_range (T : Txt K mg) : mg "range" = none := let ⟨_, X, G⟩ := T.g; He.free_ok X G (T.c.fact 45 (f := .free "range") rfl)
theorem Txt.b_set (T : Txt K mg) : mg "set" = none := let ⟨_, X, G⟩ := T.g; He.free_ok X G (T.c.fact 46 (f := .free "set") rfl)
theorem Txt.b_sorted (T : Txt K mg) : mg "sorted" = none := let ⟨_, X, G⟩ := T.g; He.free_ok X G (T.c.fact 47 (f := .free "sorted") rfl)
theorem Txt.b_str (T : Txt K mg) : mg "str" = none := let ⟨_, X, G⟩ := T.g; He.free_ok X G (T.c.fact 48 (f := .free "str") rfl)
theorem Txt.b_tuple (T : Txt K mg) : mg "tuple" = none := let ⟨_, X, G⟩ := T.g; He.free_ok X G (T.c.fact 49 (f := .free "tuple") rfl)
theorem Txt.c_Record (T : Txt K mg) : Cls K (He.ga K "Record") := He.cls_ok (T.c.fact 50 (f := .cls "Record") rfl)
theorem Txt.a_Record_start (T : Txt K mg) : NoAttr K (He.ga K "Record") "start" := He.noat_ok (T.c.fact 51 (f := .noat "Record" "start") rfl)
theorem Txt.a_Record_stamp (T : Txt K mg) : NoAttr K (He.ga K "Record") "stamp" := He.noat_ok (T.c.fact 52 (f := .noat "Record" "stamp") rfl)
theorem Txt.a_Record_mood (T : Txt K mg) : NoAttr K (He.ga K "Record") "mood" := He.noat_ok (T.c.fact 53 (f := .noat "Record" "mood") rfl)
theorem Txt.a_Record_done (T : Txt K mg) : NoAttr K (He.ga K "Record") "done" := He.noat_ok (T.c.fact 54 (f := .noat "Record" "done") rfl)
theorem Txt.a_Record_puts (T : Txt K mg) : NoAttr K (He.ga K "Record") "puts" := He.noat_ok (T.c.fact 55 (f := .noat "Record" "puts") rfl)
theorem Txt.a_Record_seen (T : Txt K mg) : NoAttr K (He.ga K "Record") "seen" := He.noat_ok (T.c.fact 56 (f := .noat "Record" "seen") rfl)
theorem Txt.a_Record_heads (T : Txt K mg) : NoAttr K (He.ga K "Record") "heads" := He.noat_ok (T.c.fact 57 (f := .noat "Record" "heads") rfl)
theorem Txt.m_Record_written (T : Txt K mg) : Meth K (He.ga K "Record") "written" (He.fAd K ("Record", some "written")) := He.meth_ok (T.c.fact 58 (f := .meth "Record" "written") rfl)
theorem Txt.m_Record_looked (T : Txt K mg) : Meth K (He.ga K "Record") "looked" (He.fAd K ("Record", some "looked")) := He.meth_ok (T.c.fact 59 (f := .meth "Record" "looked") rfl)
theorem Txt.mk_Record (T : Txt K mg) : Mk K (He.ga K "Record") (He.fAd K ("Record", some "__init__")) := He.mkr_ok (T.c.fact 60 (f := .mkr "Record") rfl)
theorem Txt.c_Shelf (T : Txt K mg) : Cls K (He.ga K "Shelf") := He.cls_ok (T.c.fact 61 (f := .cls "Shelf") rfl)
theorem Txt.a_Shelf_records (T : Txt K mg) : NoAttr K (He.ga K "Shelf") "records" := He.noat_ok (T.c.fact 62 (f := .noat "Shelf" "records") rfl)
theorem Txt.a_Shelf_row (T : Txt K mg) : NoAttr K (He.ga K "Shelf") "row" := He.noat_ok (T.c.fact 63 (f := .noat "Shelf" "row") rfl)
theorem Txt.a_Shelf_rows (T : Txt K mg) : NoAttr K (He.ga K "Shelf") "rows" := He.noat_ok (T.c.fact 64 (f := .noat "Shelf" "rows") rfl)
theorem Txt.m_Shelf_known (T : Txt K mg) : Meth K (He.ga K "Shelf") "known" (He.fAd K ("Shelf", some "known")) := He.meth_ok (T.c.fact 65 (f := .meth "Shelf" "known") rfl)
theorem Txt.m_Shelf_going (T : Txt K mg) : Meth K (He.ga K "Shelf") "going" (He.fAd K ("Shelf", some "going")) := He.meth_ok (T.c.fact 66 (f := .meth "Shelf" "going") rfl)
theorem Txt.m_Shelf_begin (T : Txt K mg) : Meth K (He.ga K "Shelf") "begin" (He.fAd K ("Shelf", some "begin")) := He.meth_ok (T.c.fact 67 (f := .meth "Shelf" "begin") rfl)
theorem Txt.m_Shelf_seen_by (T : Txt K mg) : Meth K (He.ga K "Shelf") "seen_by" (He.fAd K ("Shelf", some "seen_by")) := He.meth_ok (T.c.fact 68 (f := .meth "Shelf" "seen_by") rfl)
theorem Txt.m_Shelf_read (T : Txt K mg) : Meth K (He.ga K "Shelf") "read" (He.fAd K ("Shelf", some "read")) := He.meth_ok (T.c.fact 69 (f := .meth "Shelf" "read") rfl)
theorem Txt.m_Shelf_under (T : Txt K mg) : Meth K (He.ga K "Shelf") "under" (He.fAd K ("Shelf", some "under")) := He.meth_ok (T.c.fact 70 (f := .meth "Shelf" "under") rfl)
theorem Txt.m_Shelf_write (T : Txt K mg) : Meth K (He.ga K "Shelf") "write" (He.fAd K ("Shelf", some "write")) := He.meth_ok (T.c.fact 71 (f := .meth "Shelf" "write") rfl)
theorem Txt.m_Shelf_made (T : Txt K mg) : Meth K (He.ga K "Shelf") "made" (He.fAd K ("Shelf", some "made")) := He.meth_ok (T.c.fact 72 (f := .meth "Shelf" "made") rfl)
theorem Txt.m_Shelf_back (T : Txt K mg) : Meth K (He.ga K "Shelf") "back" (He.fAd K ("Shelf", some "back")) := He.meth_ok (T.c.fact 73 (f := .meth "Shelf" "back") rfl)
theorem Txt.m_Shelf_ahead_of (T : Txt K mg) : Meth K (He.ga K "Shelf") "ahead_of" (He.fAd K ("Shelf", some "ahead_of")) := He.meth_ok (T.c.fact 74 (f := .meth "Shelf" "ahead_of") rfl)
theorem Txt.m_Shelf_behind (T : Txt K mg) : Meth K (He.ga K "Shelf") "behind" (He.fAd K ("Shelf", some "behind")) := He.meth_ok (T.c.fact 75 (f := .meth "Shelf" "behind") rfl)
theorem Txt.m_Shelf_keep (T : Txt K mg) : Meth K (He.ga K "Shelf") "keep" (He.fAd K ("Shelf", some "keep")) := He.meth_ok (T.c.fact 76 (f := .meth "Shelf" "keep") rfl)
theorem Txt.m_Shelf_drop (T : Txt K mg) : Meth K (He.ga K "Shelf") "drop" (He.fAd K ("Shelf", some "drop")) := He.meth_ok (T.c.fact 77 (f := .meth "Shelf" "drop") rfl)
theorem Txt.m_Shelf_order (T : Txt K mg) : Meth K (He.ga K "Shelf") "order" (He.fAd K ("Shelf", some "order")) := He.meth_ok (T.c.fact 78 (f := .meth "Shelf" "order") rfl)
theorem Txt.m_Shelf_moment (T : Txt K mg) : Meth K (He.ga K "Shelf") "moment" (He.fAd K ("Shelf", some "moment")) := He.meth_ok (T.c.fact 79 (f := .meth "Shelf" "moment") rfl)
theorem Txt.m_Shelf_ended (T : Txt K mg) : Meth K (He.ga K "Shelf") "ended" (He.fAd K ("Shelf", some "ended")) := He.meth_ok (T.c.fact 80 (f := .meth "Shelf" "ended") rfl)
theorem Txt.m_Shelf_deeds (T : Txt K mg) : Meth K (He.ga K "Shelf") "deeds" (He.fAd K ("Shelf", some "deeds")) := He.meth_ok (T.c.fact 81 (f := .meth "Shelf" "deeds") rfl)
theorem Txt.m_Shelf_value (T : Txt K mg) : Meth K (He.ga K "Shelf") "value" (He.fAd K ("Shelf", some "value")) := He.meth_ok (T.c.fact 82 (f := .meth "Shelf" "value") rfl)
theorem Txt.m_Shelf_versions (T : Txt K mg) : Meth K (He.ga K "Shelf") "versions" (He.fAd K ("Shelf", some "versions")) := He.meth_ok (T.c.fact 83 (f := .meth "Shelf" "versions") rfl)
theorem Txt.m_Shelf_sweep (T : Txt K mg) : Meth K (He.ga K "Shelf") "sweep" (He.fAd K ("Shelf", some "sweep")) := He.meth_ok (T.c.fact 84 (f := .meth "Shelf" "sweep") rfl)
theorem Txt.mk_Shelf (T : Txt K mg) : Mk K (He.ga K "Shelf") (He.fAd K ("Shelf", some "__init__")) := He.mkr_ok (T.c.fact 85 (f := .mkr "Shelf") rfl)
theorem Txt.x_DealError (T : Txt K mg) : PySem.W.excIn K (He.ga K "DealError") He.veBase "ValueError.__new__" = true ∧ PySem.W.keepIn K (.ref (He.ga K "DealError")) = true ∧ PySem.W.subIn K (.ref (He.ga K "DealError")) (.type "BaseException") = some true ∧ PySem.W.typeIn K (.ref (He.ga K "DealError")) = some (.type "type") := He.exc_ok (T.c.fact 86 (f := .exc "DealError") rfl)
theorem Txt.x_NoDealing (T : Txt K mg) : PySem.W.excIn K (He.ga K "NoDealing") He.veBase "ValueError.__new__" = true ∧ PySem.W.keepIn K (.ref (He.ga K "NoDealing")) = true ∧ PySem.W.subIn K (.ref (He.ga K "NoDealing")) (.type "BaseException") = some true ∧ PySem.W.typeIn K (.ref (He.ga K "NoDealing")) = some (.type "type") := He.exc_ok (T.c.fact 87 (f := .exc "NoDealing") rfl)
theorem Txt.x_Over (T : Txt K mg) : PySem.W.excIn K (He.ga K "Over") He.veBase "ValueError.__new__" = true ∧ PySem.W.keepIn K (.ref (He.ga K "Over")) = true ∧ PySem.W.subIn K (.ref (He.ga K "Over")) (.type "BaseException") = some true ∧ PySem.W.typeIn K (.ref (He.ga K "Over")) = some (.type "type") := He.exc_ok (T.c.fact 88 (f := .exc "Over") rfl)
theorem Txt.x_NoName (T : Txt K mg) : PySem.W.excIn K (He.ga K "NoName") He.veBase "ValueError.__new__" = true ∧ PySem.W.keepIn K (.ref (He.ga K "NoName")) = true ∧ PySem.W.subIn K (.ref (He.ga K "NoName")) (.type "BaseException") = some true ∧ PySem.W.typeIn K (.ref (He.ga K "NoName")) = some (.type "type") := He.exc_ok (T.c.fact 89 (f := .exc "NoName") rfl)
theorem Txt.x_NoValue (T : Txt K mg) : PySem.W.excIn K (He.ga K "NoValue") He.veBase "ValueError.__new__" = true ∧ PySem.W.keepIn K (.ref (He.ga K "NoValue")) = true ∧ PySem.W.subIn K (.ref (He.ga K "NoValue")) (.type "BaseException") = some true ∧ PySem.W.typeIn K (.ref (He.ga K "NoValue")) = some (.type "type") := He.exc_ok (T.c.fact 90 (f := .exc "NoValue") rfl)
theorem Txt.x_NoMark (T : Txt K mg) : PySem.W.excIn K (He.ga K "NoMark") He.veBase "ValueError.__new__" = true ∧ PySem.W.keepIn K (.ref (He.ga K "NoMark")) = true ∧ PySem.W.subIn K (.ref (He.ga K "NoMark")) (.type "BaseException") = some true ∧ PySem.W.typeIn K (.ref (He.ga K "NoMark")) = some (.type "type") := He.exc_ok (T.c.fact 91 (f := .exc "NoMark") rfl)
theorem Txt.x_Taken (T : Txt K mg) : PySem.W.excIn K (He.ga K "Taken") He.veBase "ValueError.__new__" = true ∧ PySem.W.keepIn K (.ref (He.ga K "Taken")) = true ∧ PySem.W.subIn K (.ref (He.ga K "Taken")) (.type "BaseException") = some true ∧ PySem.W.typeIn K (.ref (He.ga K "Taken")) = some (.type "type") := He.exc_ok (T.c.fact 92 (f := .exc "Taken") rfl)
theorem Txt.x_Late (T : Txt K mg) : PySem.W.excIn K (He.ga K "Late") He.veBase "ValueError.__new__" = true ∧ PySem.W.keepIn K (.ref (He.ga K "Late")) = true ∧ PySem.W.subIn K (.ref (He.ga K "Late")) (.type "BaseException") = some true ∧ PySem.W.typeIn K (.ref (He.ga K "Late")) = some (.type "type") := He.exc_ok (T.c.fact 93 (f := .exc "Late") rfl)
theorem Txt.x_Crossed (T : Txt K mg) : PySem.W.excIn K (He.ga K "Crossed") He.veBase "ValueError.__new__" = true ∧ PySem.W.keepIn K (.ref (He.ga K "Crossed")) = true ∧ PySem.W.subIn K (.ref (He.ga K "Crossed")) (.type "BaseException") = some true ∧ PySem.W.typeIn K (.ref (He.ga K "Crossed")) = some (.type "type") := He.exc_ok (T.c.fact 94 (f := .exc "Crossed") rfl)
theorem Txt.e_DealError_DealError (T : Txt K mg) : PySem.W.exmOne K (.ref (He.ga K "DealError")) (.ref (He.ga K "DealError")) = some true := He.exm_ok (T.c.fact 95 (f := .exm "DealError" "DealError" true) rfl)
theorem Txt.e_NoDealing_DealError (T : Txt K mg) : PySem.W.exmOne K (.ref (He.ga K "NoDealing")) (.ref (He.ga K "DealError")) = some true := He.exm_ok (T.c.fact 96 (f := .exm "NoDealing" "DealError" true) rfl)
theorem Txt.e_Over_DealError (T : Txt K mg) : PySem.W.exmOne K (.ref (He.ga K "Over")) (.ref (He.ga K "DealError")) = some true := He.exm_ok (T.c.fact 97 (f := .exm "Over" "DealError" true) rfl)
theorem Txt.e_NoName_DealError (T : Txt K mg) : PySem.W.exmOne K (.ref (He.ga K "NoName")) (.ref (He.ga K "DealError")) = some true := He.exm_ok (T.c.fact 98 (f := .exm "NoName" "DealError" true) rfl)
theorem Txt.e_NoValue_DealError (T : Txt K mg) : PySem.W.exmOne K (.ref (He.ga K "NoValue")) (.ref (He.ga K "DealError")) = some true := He.exm_ok (T.c.fact 99 (f := .exm "NoValue" "DealError" true) rfl)
theorem Txt.e_NoMark_DealError (T : Txt K mg) : PySem.W.exmOne K (.ref (He.ga K "NoMark")) (.ref (He.ga K "DealError")) = some true := He.exm_ok (T.c.fact 100 (f := .exm "NoMark" "DealError" true) rfl)
theorem Txt.e_Taken_DealError (T : Txt K mg) : PySem.W.exmOne K (.ref (He.ga K "Taken")) (.ref (He.ga K "DealError")) = some true := He.exm_ok (T.c.fact 101 (f := .exm "Taken" "DealError" true) rfl)
theorem Txt.e_Late_DealError (T : Txt K mg) : PySem.W.exmOne K (.ref (He.ga K "Late")) (.ref (He.ga K "DealError")) = some true := He.exm_ok (T.c.fact 102 (f := .exm "Late" "DealError" true) rfl)
theorem Txt.e_Crossed_DealError (T : Txt K mg) : PySem.W.exmOne K (.ref (He.ga K "Crossed")) (.ref (He.ga K "DealError")) = some true := He.exm_ok (T.c.fact 103 (f := .exm "Crossed" "DealError" true) rfl)
theorem Txt.f_is_head (T : Txt K mg) : ∃ fd, FunD K "is_head" "is_head" (defArgs s_is_head) (defBody s_is_head) (defScope s_is_head) [] [] (He.fAd K ("is_head", none)) fd := T.c.def_ 0 (d := d_is_head) rfl
theorem sc_is_head : FnScope ["thing", "sign"] ["thing"] (defScope s_is_head) := ⟨rfl, rfl, rfl, by decide +kernel, rfl, by decide +kernel, by decide +kernel⟩
theorem Txt.f_is_name (T : Txt K mg) : ∃ fd, FunD K "is_name" "is_name" (defArgs s_is_name) (defBody s_is_name) (defScope s_is_name) [] [] (He.fAd K ("is_name", none)) fd := T.c.def_ 1 (d := d_is_name) rfl
theorem sc_is_name : FnScope ["thing"] ["thing"] (defScope s_is_name) := ⟨rfl, rfl, rfl, by decide +kernel, rfl, by decide +kernel, by decide +kernel⟩
theorem Txt.f_is_whole (T : Txt K mg) : ∃ fd, FunD K "is_whole" "is_whole" (defArgs s_is_whole) (defBody s_is_whole) (defScope s_is_whole) [] [] (He.fAd K ("is_whole", none)) fd := T.c.def_ 2 (d := d_is_whole) rfl
theorem sc_is_whole : FnScope ["thing"] ["thing"] (defScope s_is_whole) := ⟨rfl, rfl, rfl, by decide +kernel, rfl, by decide +kernel, by decide +kernel⟩
theorem Txt.f_is_value (T : Txt K mg) : ∃ fd, FunD K "is_value" "is_value" (defArgs s_is_value) (defBody s_is_value) (defScope s_is_value) [] [] (He.fAd K ("is_value", none)) fd := T.c.def_ 3 (d := d_is_value) rfl
theorem sc_is_value : FnScope ["thing"] ["thing"] (defScope s_is_value) := ⟨rfl, rfl, rfl, by decide +kernel, rfl, by decide +kernel, by decide +kernel⟩
theorem Txt.f_is_under (T : Txt K mg) : ∃ fd, FunD K "is_under" "is_under" (defArgs s_is_under) (defBody s_is_under) (defScope s_is_under) [] [] (He.fAd K ("is_under", none)) fd := T.c.def_ 4 (d := d_is_under) rfl
theorem sc_is_under : FnScope ["name", "head"] ["name", "head"] (defScope s_is_under) := ⟨rfl, rfl, rfl, by decide +kernel, rfl, by decide +kernel, by decide +kernel⟩
theorem Txt.f_place_in (T : Txt K mg) : ∃ fd, FunD K "place_in" "place_in" (defArgs s_place_in) (defBody s_place_in) (defScope s_place_in) [] [] (He.fAd K ("place_in", none)) fd := T.c.def_ 5 (d := d_place_in) rfl
theorem sc_place_in : FnScope ["row", "ahead", "behind", "place", "k", "number"] ["row", "ahead", "behind"] (defScope s_place_in) := ⟨rfl, rfl, rfl, by decide +kernel, rfl, by decide +kernel, by decide +kernel⟩
theorem Txt.f_Record_init (T : Txt K mg) : ∃ fd, FunD K "__init__" "Record.__init__" (defArgs s_Record_init) (defBody s_Record_init) (defScope s_Record_init) [] [] (He.fAd K ("Record", some "__init__")) fd := T.c.def_ 6 (d := d_Record_init) rfl
theorem sc_Record_init : FnScope ["self", "start"] ["self", "start"] (defScope s_Record_init) := ⟨rfl, rfl, rfl, by decide +kernel, rfl, by decide +kernel, by decide +kernel⟩
theorem Txt.f_Record_written (T : Txt K mg) : ∃ fd, FunD K "written" "Record.written" (defArgs s_Record_written) (defBody s_Record_written) (defScope s_Record_written) [] [] (He.fAd K ("Record", some "written")) fd := T.c.def_ 7 (d := d_Record_written) rfl
theorem sc_Record_written : FnScope ["self", "found", "put"] ["self"] (defScope s_Record_written) := ⟨rfl, rfl, rfl, by decide +kernel, rfl, by decide +kernel, by decide +kernel⟩
theorem Txt.f_Record_looked (T : Txt K mg) : ∃ fd, FunD K "looked" "Record.looked" (defArgs s_Record_looked) (defBody s_Record_looked) (defScope s_Record_looked) [] [] (He.fAd K ("Record", some "looked")) fd := T.c.def_ 8 (d := d_Record_looked) rfl
theorem sc_Record_looked : FnScope ["self", "name", "head"] ["self", "name"] (defScope s_Record_looked) := ⟨rfl, rfl, rfl, by decide +kernel, rfl, by decide +kernel, by decide +kernel⟩
theorem Txt.f_newest (T : Txt K mg) : ∃ fd, FunD K "newest" "newest" (defArgs s_newest) (defBody s_newest) (defScope s_newest) [] [] (He.fAd K ("newest", none)) fd := T.c.def_ 9 (d := d_newest) rfl
theorem sc_newest : FnScope ["rows", "moment", "found", "version"] ["rows", "moment"] (defScope s_newest) := ⟨rfl, rfl, rfl, by decide +kernel, rfl, by decide +kernel, by decide +kernel⟩
theorem Txt.f_Shelf_init (T : Txt K mg) : ∃ fd, FunD K "__init__" "Shelf.__init__" (defArgs s_Shelf_init) (defBody s_Shelf_init) (defScope s_Shelf_init) [] [] (He.fAd K ("Shelf", some "__init__")) fd := T.c.def_ 10 (d := d_Shelf_init) rfl
theorem sc_Shelf_init : FnScope ["self"] ["self"] (defScope s_Shelf_init) := ⟨rfl, rfl, rfl, by decide +kernel, rfl, by decide +kernel, by decide +kernel⟩
theorem Txt.f_Shelf_known (T : Txt K mg) : ∃ fd, FunD K "known" "Shelf.known" (defArgs s_Shelf_known) (defBody s_Shelf_known) (defScope s_Shelf_known) [] [] (He.fAd K ("Shelf", some "known")) fd := T.c.def_ 11 (d := d_Shelf_known) rfl
theorem sc_Shelf_known : FnScope ["self", "number"] ["self", "number"] (defScope s_Shelf_known) := ⟨rfl, rfl, rfl, by decide +kernel, rfl, by decide +kernel, by decide +kernel⟩
theorem Txt.f_Shelf_going (T : Txt K mg) : ∃ fd, FunD K "going" "Shelf.going" (defArgs s_Shelf_going) (defBody s_Shelf_going) (defScope s_Shelf_going) [] [] (He.fAd K ("Shelf", some "going")) fd := T.c.def_ 12 (d := d_Shelf_going) rfl
theorem sc_Shelf_going : FnScope ["self", "number", "record"] ["self", "number"] (defScope s_Shelf_going) := ⟨rfl, rfl, rfl, by decide +kernel, rfl, by decide +kernel, by decide +kernel⟩
theorem Txt.f_Shelf_begin (T : Txt K mg) : ∃ fd, FunD K "begin" "Shelf.begin" (defArgs s_Shelf_begin) (defBody s_Shelf_begin) (defScope s_Shelf_begin) [] [] (He.fAd K ("Shelf", some "begin")) fd := T.c.def_ 13 (d := d_Shelf_begin) rfl
theorem sc_Shelf_begin : FnScope ["self"] ["self"] (defScope s_Shelf_begin) := ⟨rfl, rfl, rfl, by decide +kernel, rfl, by decide +kernel, by decide +kernel⟩
theorem Txt.f_Shelf_seen_by (T : Txt K mg) : ∃ fd, FunD K "seen_by" "Shelf.seen_by" (defArgs s_Shelf_seen_by) (defBody s_Shelf_seen_by) (defScope s_Shelf_seen_by) [] [] (He.fAd K ("Shelf", some "seen_by")) fd := T.c.def_ 14 (d := d_Shelf_seen_by) rfl
theorem sc_Shelf_seen_by : FnScope ["self", "record", "name", "own"] ["self", "record", "name"] (defScope s_Shelf_seen_by) := ⟨rfl, rfl, rfl, by decide +kernel, rfl, by decide +kernel, by decide +kernel⟩
theorem Txt.f_Shelf_read (T : Txt K mg) : ∃ fd, FunD K "read" "Shelf.read" (defArgs s_Shelf_read) (defBody s_Shelf_read) (defScope s_Shelf_read) [] [] (He.fAd K ("Shelf", some "read")) fd := T.c.def_ 15 (d := d_Shelf_read) rfl
theorem sc_Shelf_read : FnScope ["self", "number", "name", "record", "found"] ["self", "number", "name"] (defScope s_Shelf_read) := ⟨rfl, rfl, rfl, by decide +kernel, rfl, by decide +kernel, by decide +kernel⟩
theorem Txt.f_Shelf_under (T : Txt K mg) : ∃ fd, FunD K "under" "Shelf.under" (defArgs s_Shelf_under) (defBody s_Shelf_under) (defScope s_Shelf_under) [] [] (He.fAd K ("Shelf", some "under")) fd := T.c.def_ 16 (d := d_Shelf_under) rfl
theorem sc_Shelf_under : FnScope ["self", "number", "head", "record", "found", "name", "told"] ["self", "number", "head"] (defScope s_Shelf_under) := ⟨rfl, rfl, rfl, by decide +kernel, rfl, by decide +kernel, by decide +kernel⟩
theorem Txt.f_Shelf_write (T : Txt K mg) : ∃ fd, FunD K "write" "Shelf.write" (defArgs s_Shelf_write) (defBody s_Shelf_write) (defScope s_Shelf_write) [] [] (He.fAd K ("Shelf", some "write")) fd := T.c.def_ 17 (d := d_Shelf_write) rfl
theorem sc_Shelf_write : FnScope ["self", "number", "name", "value", "record", "k", "other", "version"] ["self", "number", "name", "value"] (defScope s_Shelf_write) := ⟨rfl, rfl, rfl, by decide +kernel, rfl, by decide +kernel, by decide +kernel⟩
theorem Txt.f_Shelf_made (T : Txt K mg) : ∃ fd, FunD K "made" "Shelf.made" (defArgs s_Shelf_made) (defBody s_Shelf_made) (defScope s_Shelf_made) [] [] (He.fAd K ("Shelf", some "made")) fd := T.c.def_ 18 (d := d_Shelf_made) rfl
theorem sc_Shelf_made : FnScope ["self", "number"] ["self", "number"] (defScope s_Shelf_made) := ⟨rfl, rfl, rfl, by decide +kernel, rfl, by decide +kernel, by decide +kernel⟩
theorem Txt.f_Shelf_back (T : Txt K mg) : ∃ fd, FunD K "back" "Shelf.back" (defArgs s_Shelf_back) (defBody s_Shelf_back) (defScope s_Shelf_back) [] [] (He.fAd K ("Shelf", some "back")) fd := T.c.def_ 19 (d := d_Shelf_back) rfl
theorem sc_Shelf_back : FnScope ["self", "number", "many", "record"] ["self", "number", "many"] (defScope s_Shelf_back) := ⟨rfl, rfl, rfl, by decide +kernel, rfl, by decide +kernel, by decide +kernel⟩
theorem Txt.f_Shelf_ahead_of (T : Txt K mg) : ∃ fd, FunD K "ahead_of" "Shelf.ahead_of" (defArgs s_Shelf_ahead_of) (defBody s_Shelf_ahead_of) (defScope s_Shelf_ahead_of) [] [] (He.fAd K ("Shelf", some "ahead_of")) fd := T.c.def_ 20 (d := d_Shelf_ahead_of) rfl
theorem sc_Shelf_ahead_of : FnScope ["self", "record", "found", "own", "number", "other", "name"] ["self", "record"] (defScope s_Shelf_ahead_of) := ⟨rfl, rfl, rfl, by decide +kernel, rfl, by decide +kernel, by decide +kernel⟩
theorem Txt.f_Shelf_behind (T : Txt K mg) : ∃ fd, FunD K "behind" "Shelf.behind" (defArgs s_Shelf_behind) (defBody s_Shelf_behind) (defScope s_Shelf_behind) [] [] (He.fAd K ("Shelf", some "behind")) fd := T.c.def_ 21 (d := d_Shelf_behind) rfl
theorem sc_Shelf_behind : FnScope ["self", "record", "found", "number", "other", "name"] ["self", "record"] (defScope s_Shelf_behind) := ⟨rfl, rfl, rfl, by decide +kernel, rfl, by decide +kernel, by decide +kernel⟩
theorem Txt.f_Shelf_keep (T : Txt K mg) : ∃ fd, FunD K "keep" "Shelf.keep" (defArgs s_Shelf_keep) (defBody s_Shelf_keep) (defScope s_Shelf_keep) [] [] (He.fAd K ("Shelf", some "keep")) fd := T.c.def_ 22 (d := d_Shelf_keep) rfl
theorem sc_Shelf_keep : FnScope ["self", "number", "record", "place", "name", "told"] ["self", "number"] (defScope s_Shelf_keep) := ⟨rfl, rfl, rfl, by decide +kernel, rfl, by decide +kernel, by decide +kernel⟩
theorem Txt.f_Shelf_drop (T : Txt K mg) : ∃ fd, FunD K "drop" "Shelf.drop" (defArgs s_Shelf_drop) (defBody s_Shelf_drop) (defScope s_Shelf_drop) [] [] (He.fAd K ("Shelf", some "drop")) fd := T.c.def_ 23 (d := d_Shelf_drop) rfl
theorem sc_Shelf_drop : FnScope ["self", "number", "record"] ["self", "number"] (defScope s_Shelf_drop) := ⟨rfl, rfl, rfl, by decide +kernel, rfl, by decide +kernel, by decide +kernel⟩
theorem Txt.f_Shelf_order (T : Txt K mg) : ∃ fd, FunD K "order" "Shelf.order" (defArgs s_Shelf_order) (defBody s_Shelf_order) (defScope s_Shelf_order) [] [] (He.fAd K ("Shelf", some "order")) fd := T.c.def_ 24 (d := d_Shelf_order) rfl
theorem sc_Shelf_order : FnScope ["self"] ["self"] (defScope s_Shelf_order) := ⟨rfl, rfl, rfl, by decide +kernel, rfl, by decide +kernel, by decide +kernel⟩
theorem Txt.f_Shelf_moment (T : Txt K mg) : ∃ fd, FunD K "moment" "Shelf.moment" (defArgs s_Shelf_moment) (defBody s_Shelf_moment) (defScope s_Shelf_moment) [] [] (He.fAd K ("Shelf", some "moment")) fd := T.c.def_ 25 (d := d_Shelf_moment) rfl
theorem sc_Shelf_moment : FnScope ["self"] ["self"] (defScope s_Shelf_moment) := ⟨rfl, rfl, rfl, by decide +kernel, rfl, by decide +kernel, by decide +kernel⟩
theorem Txt.f_Shelf_deeds (T : Txt K mg) : ∃ fd, FunD K "deeds" "Shelf.deeds" (defArgs s_Shelf_deeds) (defBody s_Shelf_deeds) (defScope s_Shelf_deeds) [] [] (He.fAd K ("Shelf", some "deeds")) fd := T.c.def_ 26 (d := d_Shelf_deeds) rfl
theorem sc_Shelf_deeds : FnScope ["self", "number", "found", "deed"] ["self", "number"] (defScope s_Shelf_deeds) := ⟨rfl, rfl, rfl, by decide +kernel, rfl, by decide +kernel, by decide +kernel⟩
theorem Txt.f_Shelf_value (T : Txt K mg) : ∃ fd, FunD K "value" "Shelf.value" (defArgs s_Shelf_value) (defBody s_Shelf_value) (defScope s_Shelf_value) [] [] (He.fAd K ("Shelf", some "value")) fd := T.c.def_ 27 (d := d_Shelf_value) rfl
theorem sc_Shelf_value : FnScope ["self", "name"] ["self", "name"] (defScope s_Shelf_value) := ⟨rfl, rfl, rfl, by decide +kernel, rfl, by decide +kernel, by decide +kernel⟩
theorem Txt.f_Shelf_versions (T : Txt K mg) : ∃ fd, FunD K "versions" "Shelf.versions" (defArgs s_Shelf_versions) (defBody s_Shelf_versions) (defScope s_Shelf_versions) [] [] (He.fAd K ("Shelf", some "versions")) fd := T.c.def_ 28 (d := d_Shelf_versions) rfl
theorem sc_Shelf_versions : FnScope ["self", "name"] ["self", "name"] (defScope s_Shelf_versions) := ⟨rfl, rfl, rfl, by decide +kernel, rfl, by decide +kernel, by decide +kernel⟩
theorem Txt.f_l_whole (T : Txt K mg) : ∃ fd, FunD K "_law_whole" "_law_whole" (defArgs s_l_whole) (defBody s_l_whole) (defScope s_l_whole) [] [] (He.fAd K ("_law_whole", none)) fd := T.c.def_ 29 (d := d_l_whole) rfl
theorem sc_l_whole : FnScope ["_law_found"] ["_law_found"] (defScope s_l_whole) := ⟨rfl, rfl, rfl, by decide +kernel, rfl, by decide +kernel, by decide +kernel⟩
theorem Txt.f_l_cell_at (T : Txt K mg) : ∃ fd, FunD K "_law_cell_at" "_law_cell_at" (defArgs s_l_cell_at) (defBody s_l_cell_at) (defScope s_l_cell_at) [] [] (He.fAd K ("_law_cell_at", none)) fd := T.c.def_ 30 (d := d_l_cell_at) rfl
theorem sc_l_cell_at : FnScope ["_law_script", "_law_k"] ["_law_script", "_law_k"] (defScope s_l_cell_at) := ⟨rfl, rfl, rfl, by decide +kernel, rfl, by decide +kernel, by decide +kernel⟩
theorem Txt.f_l_mixed (T : Txt K mg) : ∃ fd, FunD K "_law_mixed" "_law_mixed" (defArgs s_l_mixed) (defBody s_l_mixed) (defScope s_l_mixed) [] [] (He.fAd K ("_law_mixed", none)) fd := T.c.def_ 31 (d := d_l_mixed) rfl
theorem sc_l_mixed : FnScope ["_law_number"] ["_law_number"] (defScope s_l_mixed) := ⟨rfl, rfl, rfl, by decide +kernel, rfl, by decide +kernel, by decide +kernel⟩
theorem Txt.f_l_name_by (T : Txt K mg) : ∃ fd, FunD K "_law_name_by" "_law_name_by" (defArgs s_l_name_by) (defBody s_l_name_by) (defScope s_l_name_by) [] [] (He.fAd K ("_law_name_by", none)) fd := T.c.def_ 32 (d := d_l_name_by) rfl
theorem sc_l_name_by : FnScope ["_law_cell", "_law_some", "_law_name", "_law_number", "_law_k"] ["_law_cell"] (defScope s_l_name_by) := ⟨rfl, rfl, rfl, by decide +kernel, rfl, by decide +kernel, by decide +kernel⟩
theorem Txt.f_l_twin (T : Txt K mg) : ∃ fd, FunD K "_law_twin" "_law_twin" (defArgs s_l_twin) (defBody s_l_twin) (defScope s_l_twin) [] [] (He.fAd K ("_law_twin", none)) fd := T.c.def_ 33 (d := d_l_twin) rfl
theorem sc_l_twin : FnScope ["_law_name", "_law_cell", "_law_some", "_law_at", "_law_step"] ["_law_name", "_law_cell"] (defScope s_l_twin) := ⟨rfl, rfl, rfl, by decide +kernel, rfl, by decide +kernel, by decide +kernel⟩
theorem Txt.f_l_pool (T : Txt K mg) : ∃ fd, FunD K "_law_pool" "_law_pool" (defArgs s_l_pool) (defBody s_l_pool) (defScope s_l_pool) [] [] (He.fAd K ("_law_pool", none)) fd := T.c.def_ 34 (d := d_l_pool) rfl
theorem sc_l_pool : FnScope ["_law_one", "_law_two", "_law_first", "_law_second", "_law_pool_here", "_law_k"] ["_law_one", "_law_two"] (defScope s_l_pool) := ⟨rfl, rfl, rfl, by decide +kernel, rfl, by decide +kernel, by decide +kernel⟩
theorem Txt.f_l_value_by (T : Txt K mg) : ∃ fd, FunD K "_law_value_by" "_law_value_by" (defArgs s_l_value_by) (defBody s_l_value_by) (defScope s_l_value_by) [] [] (He.fAd K ("_law_value_by", none)) fd := T.c.def_ 35 (d := d_l_value_by) rfl
theorem sc_l_value_by : FnScope ["_law_cell"] ["_law_cell"] (defScope s_l_value_by) := ⟨rfl, rfl, rfl, by decide +kernel, rfl, by decide +kernel, by decide +kernel⟩
theorem Txt.f_l_same (T : Txt K mg) : ∃ fd, FunD K "_law_same" "_law_same" (defArgs s_l_same) (defBody s_l_same) (defScope s_l_same) [] [] (He.fAd K ("_law_same", none)) fd := T.c.def_ 36 (d := d_l_same) rfl
theorem sc_l_same : FnScope ["_law_told", "_law_due"] ["_law_told", "_law_due"] (defScope s_l_same) := ⟨rfl, rfl, rfl, by decide +kernel, rfl, by decide +kernel, by decide +kernel⟩
theorem Txt.f_l_pairs (T : Txt K mg) : ∃ fd, FunD K "_law_pairs" "_law_pairs" (defArgs s_l_pairs) (defBody s_l_pairs) (defScope s_l_pairs) [] [] (He.fAd K ("_law_pairs", none)) fd := T.c.def_ 37 (d := d_l_pairs) rfl
theorem sc_l_pairs : FnScope ["_law_told", "_law_due", "_law_k"] ["_law_told", "_law_due"] (defScope s_l_pairs) := ⟨rfl, rfl, rfl, by decide +kernel, rfl, by decide +kernel, by decide +kernel⟩
theorem Txt.f_l_deed_by (T : Txt K mg) : ∃ fd, FunD K "_law_deed_by" "_law_deed_by" (defArgs s_l_deed_by) (defBody s_l_deed_by) (defScope s_l_deed_by) [] [] (He.fAd K ("_law_deed_by", none)) fd := T.c.def_ 38 (d := d_l_deed_by) rfl
theorem sc_l_deed_by : FnScope ["_law_shelf", "_law_who", "_law_name", "_law_more", "_law_cell", "_law_head", "_law_many"] ["_law_shelf", "_law_who", "_law_name", "_law_more", "_law_cell"] (defScope s_l_deed_by) := ⟨rfl, rfl, rfl, by decide +kernel, rfl, by decide +kernel, by decide +kernel⟩
theorem Txt.f_l_tried (T : Txt K mg) : ∃ fd, FunD K "_law_tried" "_law_tried" (defArgs s_l_tried) (defBody s_l_tried) (defScope s_l_tried) [] [] (He.fAd K ("_law_tried", none)) fd := T.c.def_ 39 (d := d_l_tried) rfl
theorem sc_l_tried : FnScope ["_law_shelf", "_law_told", "_law_kept", "_law_held", "_law_who", "_law_name", "_law_more", "_law_cell", "_law_deed"] ["_law_shelf", "_law_told", "_law_kept", "_law_held", "_law_who", "_law_name", "_law_more", "_law_cell"] (defScope s_l_tried) := ⟨rfl, rfl, rfl, by decide +kernel, rfl, by decide +kernel, by decide +kernel⟩
theorem Txt.f_l_short (T : Txt K mg) : ∃ fd, FunD K "_law_short" "_law_short" (defArgs s_l_short) (defBody s_l_short) (defScope s_l_short) [] [] (He.fAd K ("_law_short", none)) fd := T.c.def_ 40 (d := d_l_short) rfl
theorem sc_l_short : FnScope ["_law_shelf", "_law_told", "_law_kept", "_law_held", "_law_pool_here", "_law_many", "_law_j", "_law_who"] ["_law_shelf", "_law_told", "_law_kept", "_law_held", "_law_pool_here", "_law_many"] (defScope s_l_short) := ⟨rfl, rfl, rfl, by decide +kernel, rfl, by decide +kernel, by decide +kernel⟩
theorem Txt.f_l_played (T : Txt K mg) : ∃ fd, FunD K "_law_played" "_law_played" (defArgs s_l_played) (defBody s_l_played) (defScope s_l_played) [] [] (He.fAd K ("_law_played", none)) fd := T.c.def_ 41 (d := d_l_played) rfl
theorem sc_l_played : FnScope ["_law_shelf", "_law_script", "_law_pool_here", "_law_told", "_law_kept", "_law_held", "_law_k", "_law_name", "_law_turn", "_law_cell", "_law_more", "_law_who", "_law_deeds", "_law_row", "_law_deed"] ["_law_shelf", "_law_script", "_law_pool_here"] (defScope s_l_played) := ⟨rfl, rfl, rfl, by decide +kernel, rfl, by decide +kernel, by decide +kernel⟩
theorem Txt.f_l_deed_same (T : Txt K mg) : ∃ fd, FunD K "_law_deed_same" "_law_deed_same" (defArgs s_l_deed_same) (defBody s_l_deed_same) (defScope s_l_deed_same) [] [] (He.fAd K ("_law_deed_same", none)) fd := T.c.def_ 42 (d := d_l_deed_same) rfl
theorem sc_l_deed_same : FnScope ["_law_told", "_law_due"] ["_law_told", "_law_due"] (defScope s_l_deed_same) := ⟨rfl, rfl, rfl, by decide +kernel, rfl, by decide +kernel, by decide +kernel⟩
theorem Txt.f_l_deeds_same (T : Txt K mg) : ∃ fd, FunD K "_law_deeds_same" "_law_deeds_same" (defArgs s_l_deeds_same) (defBody s_l_deeds_same) (defScope s_l_deeds_same) [] [] (He.fAd K ("_law_deeds_same", none)) fd := T.c.def_ 43 (d := d_l_deeds_same) rfl
theorem sc_l_deeds_same : FnScope ["_law_told", "_law_due", "_law_k"] ["_law_told", "_law_due"] (defScope s_l_deeds_same) := ⟨rfl, rfl, rfl, by decide +kernel, rfl, by decide +kernel, by decide +kernel⟩
theorem Txt.f_l_copied (T : Txt K mg) : ∃ fd, FunD K "_law_copied" "_law_copied" (defArgs s_l_copied) (defBody s_l_copied) (defScope s_l_copied) [] [] (He.fAd K ("_law_copied", none)) fd := T.c.def_ 44 (d := d_l_copied) rfl
theorem sc_l_copied : FnScope ["_law_deed"] ["_law_deed"] (defScope s_l_copied) := ⟨rfl, rfl, rfl, by decide +kernel, rfl, by decide +kernel, by decide +kernel⟩
theorem Txt.f_l_changed (T : Txt K mg) : ∃ fd, FunD K "_law_changed" "_law_changed" (defArgs s_l_changed) (defBody s_l_changed) (defScope s_l_changed) [] [] (He.fAd K ("_law_changed", none)) fd := T.c.def_ 45 (d := d_l_changed) rfl
theorem sc_l_changed : FnScope ["_law_rows", "_law_deed"] ["_law_rows"] (defScope s_l_changed) := ⟨rfl, rfl, rfl, by decide +kernel, rfl, by decide +kernel, by decide +kernel⟩
theorem Txt.f_law (T : Txt K mg) : ∃ fd, FunD K "law" "law" (defArgs s_law) (defBody s_law) (defScope s_law) [] [] (He.fAd K ("law", none)) fd := T.c.def_ 46 (d := d_law) rfl
theorem sc_law : FnScope ["_law_script", "_law_pool_here", "_law_shelf", "_law_played_here", "_law_row", "_law_pair", "_law_due", "_law_k", "_law_told", "_law_number"] ["_law_script"] (defScope s_law) := ⟨rfl, rfl, rfl, by decide +kernel, rfl, by decide +kernel, by decide +kernel⟩
end
end Kr
set_option maxHeartbeats 0
namespace Kr
open PySem PySem.Spec PyProof.Rows L2
/-! ### the head's run -/
abbrev hd_R : PySem.W.OpenRow := PySem.W.OpenLaw.row PySem.Challenge.rw_keptrow_k10_deeds_told
abbrev hd_hk : PySem.W.Hook := He.hookD 6 fa fn
def hd_ob (s : PySem.W.SharedT) : He.AlD := He.obsDG 6 fa fn (HandSHeadRun.getT s)
theorem hd_ob_eq (s : PySem.W.SharedT) : hd_ob s = hd_hk.obs s.abs := He.obsDG_eq (HandSHeadRun.getT_eq s)
theorem hd_run (w : World) : HandSHeadRun.RunEq hd_R (PySem.W.view hd_R.prog [44]) hd_hk hd_ob 14000 loose w := by
  intro os
  kernel_rfl
end Kr
set_option maxHeartbeats 4000000
namespace Kr
open PySem PySem.Spec L2
/-! ### operators by names -/
def r_add : R2 := rI0 fun i j => .int (i + j)
def r_sub : R2 := rI0 fun i j => .int (i - j)
def r_mul : R2 := rI CMul fun i j => .int (i * j)
def r_div : R2 := rI CDiv fun i j => .int (i / j)
def r_mod : R2 := rI (fun _ j => 0 < j) fun i j => .int (i % j)
def r_pow : R2 := rI CPow fun i j => .int (i ^ j.toNat)
def r_lt : R2 := rI0 fun i j => .bl (decide (i < j))
def r_le : R2 := rI0 fun i j => .bl (decide (i ≤ j))
def r_gt : R2 := rI0 fun i j => .bl (decide (j < i))
def r_ge : R2 := rI0 fun i j => .bl (decide (j ≤ i))
def r_cat : R2 := fun x y H Q => ∃ i j : Str, x = .str i ∧ y = .str j ∧ i.length + j.length ≤ sizeLine ∧ Q (.str (i ++ j)) H
def r_isN : R2 := fun x y H Q => y = .non ∧ Q (.bl (decide (x = .non))) H
def r_notN : R2 := fun x y H Q => y = .non ∧ Q (.bl (!decide (x = .non))) H
def r_inC : R2 := fun x y H Q => ∃ (c : Nat) (z : Str), x = .str ⟨#[c]⟩ ∧ y = .str z ∧ Q (.bl (decide (c ∈ z.cps.toList))) H
def r_niC : R2 := fun x y H Q => ∃ (c : Nat) (z : Str), x = .str ⟨#[c]⟩ ∧ y = .str z ∧ Q (.bl (!decide (c ∈ z.cps.toList))) H
def r_neg : V → Hp → VK → Prop := rU fun i => .int (-i)
section
variable {X : Cx}
theorem o_add : OpR X (binaryOp .Add) r_add := op_add
theorem o_sub : OpR X (binaryOp .Sub) r_sub := op_sub
theorem o_mul : OpR X (binaryOp .Mult) r_mul := op_mul
theorem o_div : OpR X (binaryOp .FloorDiv) r_div := op_fdiv
theorem o_mod : OpR X (binaryOp .Mod) r_mod := op_mod
theorem o_pow : OpR X (binaryOp .Pow) r_pow := op_pow
theorem o_lt : OpR X (compareOp .Lt) r_lt := op_lt
theorem o_le : OpR X (compareOp .LtE) r_le := op_le
theorem o_gt : OpR X (compareOp .Gt) r_gt := op_gt
theorem o_ge : OpR X (compareOp .GtE) r_ge := op_ge
theorem o_cat : OpR X (binaryOp .Add) r_cat := op_add_str
theorem o_isN : OpR X (compareOp .Is) r_isN := op_isN
theorem o_notN : OpR X (compareOp .IsNot) r_notN := op_notN
theorem o_inC : OpR X (compareOp .In) r_inC := op_in_sign
theorem o_niC : OpR X (compareOp .NotIn) r_niC := op_notIn_sign
theorem o_neg : UnR X (unaryOp .USub) r_neg := un_neg
end
/-! ### built-ins by names -/
def c_len (K : PySem.W.Frag) : List V → Hp → VK → Prop := fun xs H Q => ∃ p ys, xs = [.ref p] ∧ (SqL K H p ys ∨ SqT K H p ys) ∧ Q (.int ys.length) H
def c_lenS : List V → Hp → VK → Prop := fun xs H Q => ∃ z : Str, xs = [.str z] ∧ z.length ≤ sizeLine ∧ Q (.int z.length) H
def c_lenD : List V → Hp → VK → Prop := fun xs H Q => ∃ a kvs, xs = [V.ref a] ∧ H a = some (.dK kvs) ∧ Q (.int kvs.length) H
def c_min2 : List V → Hp → VK → Prop := fun xs H Q => ∃ i j : Int, xs = [.int i, .int j] ∧ Q (.int (if j < i then j else i)) H
def c_max2 : List V → Hp → VK → Prop := fun xs H Q => ∃ i j : Int, xs = [.int i, .int j] ∧ Q (.int (if j > i then j else i)) H
def c_list (K : PySem.W.Frag) : List V → Hp → VK → Prop := fun xs H Q => ∃ p ys, xs = [.ref p] ∧ (SqL K H p ys ∨ SqT K H p ys) ∧ ∀ l, H l = none → Q (.ref l) (upd H l (.lst ys))
def c_listD : List V → Hp → VK → Prop := fun xs H Q => ∃ (a : Addr) (kvs : List (Key × V)), xs = [.ref a] ∧ Rd H a (.dK kvs) ∧ ∀ p, H p = none → Q (.ref p) (upd H p (.lst (kvs.map fun kv => kV kv.1)))
def c_dictD : List V → Hp → VK → Prop := fun xs H Q => ∃ (a : Addr) (kvs : List (Key × V)), xs = [.ref a] ∧ Rd H a (.dK kvs) ∧ ∀ p, H p = none → Q (.ref p) (upd H p (.dK kvs))
def c_int : List V → Hp → VK → Prop := fun xs H Q => (∃ i : Int, xs = [.int i] ∧ Q (.int i) H) ∨ ∃ k : Bool, xs = [.bl k] ∧ Q (.int (if k then 1 else 0)) H
def c_strI : List V → Hp → VK → Prop := fun xs H Q => ∃ i : Int, xs = [.int i] ∧ i.natAbs.log2 < 1920 ∧ Q (.str (toString i)) H
section
variable {X : Cx}
theorem k_len : CallR X (.builtin "len") (c_len X.K) := call_len_seq
theorem k_lenS : CallR X (.builtin "len") c_lenS := call_len_str
theorem k_lenD : CallR X (.builtin "len") c_lenD := call_lenD
theorem k_min2 (hc : X.calm = true) : CallR X (.builtin "min") c_min2 := call_min2 hc
theorem k_max2 (hc : X.calm = true) : CallR X (.builtin "max") c_max2 := call_max2 hc
theorem k_list : CallR X (.type "list") (c_list X.K) := call_list_of
theorem k_listD (hc : X.calm = true) : CallR X (.type "list") c_listD := call_listD hc
theorem k_dictD : CallR X (.type "dict") c_dictD := call_dictD
theorem k_int : CallR X (.type "int") c_int := call_int1
theorem k_strI : CallR X (.type "str") c_strI := call_str_int
end
/-! ### the readings, step by step -/
section
variable {t u : TS} {D : Ends} {σ : St} {H : Hp} {Q : VK} {te ta tb tc : TE} {r r' : R2} {c d : TT} {i : Nat} {v : V}
theorem x_seq (h : t ⟨u D, D.rt, D.bk, D.ct⟩ σ H) : tSeq t u D σ H := h
theorem x_next (h : D.nx σ H) : tNext D σ H := h
theorem x_asg (h : te σ H fun x H1 => D.nx (σ.set i (some x)) H1) : tAsg te (gName i) D σ H := h
theorem x_asgT {K : PySem.W.Frag} {n : Nat} {t : TGs} (h : te σ H fun x H1 => gTup K n t x σ H1 D.nx) : tAsg te (gTup K n t) D σ H := h
theorem x_drop (h : te σ H fun _ H1 => D.nx σ H1) : tDrop te D σ H := h
theorem x_ret (h : te σ H D.rt) : tRet te D σ H := h
theorem x_retN (h : D.rt .non H) : tRetN D σ H := h
theorem x_ifS (h : c σ H fun b H1 => if b = true then t D σ H1 else u D σ H1) : tIfS c t u D σ H := h
theorem x_brk (h : D.bk σ H) : tBreak D σ H := h
theorem x_cont (h : D.ct σ H) : tCont D σ H := h
theorem x_var (e : σ[i]? = some (some v)) (h : Q v H) : tVar i σ H Q := ⟨v, e, h⟩
theorem x_c (h : Q v H) : tC v σ H Q := h
theorem x_op (h : ta σ H fun x H1 => tb σ H1 fun y H2 => r x y H2 Q) : tOp r ta tb σ H Q := h
theorem x_un {r : V → Hp → VK → Prop} (h : ta σ H fun x H1 => r x H1 Q) : tUn r ta σ H Q := h
theorem x_chain (h : ta σ H fun x H1 => tb σ H1 fun y H2 => r x y H2 fun z H3 => ∃ k, z = .bl k ∧ (if k = true then tc σ H3 fun w' H4 => r' y w' H4 Q else Q (.bl false) H3)) : tChain r r' ta tb tc σ H Q := h
theorem x_test {Q : Bool → Hp → Prop} (h : te σ H fun x H' => ∃ k, x = .bl k ∧ Q k H') : tTest te σ H Q := h
theorem x_B {Q : Bool → Hp → Prop} (h : te σ H fun x H' => ∃ k, x = .bl k ∧ Q k H') : tB te σ H Q := h
theorem x_bl {b : Bool} {Q : Bool → Hp → Prop} (h : Q b H) : ∃ k, V.bl b = .bl k ∧ Q k H := ⟨b, rfl, h⟩
theorem x_and {Q : Bool → Hp → Prop} (h : c σ H fun b H1 => if b = true then d σ H1 Q else Q false H1) : tAnd c d σ H Q := h
theorem x_or {Q : Bool → Hp → Prop} (h : c σ H fun b H1 => if b = true then Q true H1 else d σ H1 Q) : tOr c d σ H Q := h
theorem x_not {Q : Bool → Hp → Prop} (h : c σ H fun b H1 => Q (!b) H1) : tNot c σ H Q := h
theorem x_andV (h : ta σ H fun x H1 => ∃ k, x = .bl k ∧ if k = true then tb σ H1 Q else Q (.bl false) H1) : tAndV ta tb σ H Q := h
theorem x_orV (h : ta σ H fun x H1 => ∃ k, x = .bl k ∧ if k = true then Q (.bl true) H1 else tb σ H1 Q) : tOrV ta tb σ H Q := h
theorem x_notV (h : ta σ H fun x H1 => ∃ k, x = .bl k ∧ Q (.bl (!k)) H1) : tNotV ta σ H Q := h
theorem x_blI {b : Bool} {A B : Prop} (h : if b = true then A else B) : ∃ k, V.bl b = .bl k ∧ if k = true then A else B := ⟨b, rfl, h⟩
theorem x_cons {tr : TA} {Q : List V → Hp → Prop} (h : ta σ H fun x H1 => tr σ H1 fun xs H2 => Q (x :: xs) H2) : tCons ta tr σ H Q := h
theorem x_nil {Q : List V → Hp → Prop} (h : Q [] H) : tNil σ H Q := h
theorem x_tup {tr : TA} (h : tr σ H fun xs H1 => xs.length ≤ sizeLine ∧ ∀ p, H1 p = none → Q (.ref p) (upd H1 p (.tup xs))) : tTup tr σ H Q := h
theorem x_lst {tr : TA} (h : tr σ H fun xs H1 => xs.length ≤ sizeLine ∧ ∀ p, H1 p = none → Q (.ref p) (upd H1 p (.lst xs))) : tLst tr σ H Q := h
theorem x_CB {r : List V → Hp → VK → Prop} {tr : TA} (h : tr σ H fun vs H1 => r vs H1 Q) : tCB r tr σ H Q := h
theorem x_call {sp : Sp} {dvs : List V} {E : XK} {tr : TA} (h : tr σ H fun vs H1 => sp (vs ++ dvs) H1 Q E) : tCall sp dvs E tr σ H Q := h
theorem x_callS {sp : Sp} {E : St → XK} {tr : TA} (h : tr σ H fun vs H1 => sp vs H1 Q (E σ)) : tCallS sp E tr σ H Q := h
theorem x_sl {r : V → Option Int → Option Int → Hp → VK → Prop} {tl th : TO} (h : te σ H fun x H1 => tl σ H1 fun l H2 => th σ H2 fun u H3 => r x l u H3 Q) : tSl r te tl th σ H Q := h
theorem x_noPart {Q : Option Int → Hp → Prop} (h : Q none H) : tNoPart σ H Q := h
theorem x_part {Q : Option Int → Hp → Prop} (h : te σ H fun x H1 => ∃ i, x = .int i ∧ Q (some i) H1) : tPart te σ H Q := h
theorem x_intI {j : Int} {Q : Int → Hp → Prop} (h : Q j H) : ∃ k, V.int j = .int k ∧ Q k H := ⟨j, rfl, h⟩
theorem x_intS {j : Int} {Q : Option Int → Hp → Prop} (h : Q (some j) H) : ∃ k, V.int j = .int k ∧ Q (some k) H := ⟨j, rfl, h⟩
theorem x_dNew (h : ∀ p, H p = none → Q (.ref p) (upd H p (.dK []))) : tDNewK σ H Q := h
variable {a b : Int}
theorem x_add (h : Q (.int (a + b)) H) : r_add (.int a) (.int b) H Q := ⟨a, b, rfl, rfl, h⟩
theorem x_sub (h : Q (.int (a - b)) H) : r_sub (.int a) (.int b) H Q := ⟨a, b, rfl, rfl, h⟩
theorem x_mul (e : CMul a b) (h : Q (.int (a * b)) H) : r_mul (.int a) (.int b) H Q := ⟨a, b, rfl, rfl, e, h⟩
theorem x_div (e : CDiv a b) (h : Q (.int (a / b)) H) : r_div (.int a) (.int b) H Q := ⟨a, b, rfl, rfl, e, h⟩
theorem x_mod (e : 0 < b) (h : Q (.int (a % b)) H) : r_mod (.int a) (.int b) H Q := ⟨a, b, rfl, rfl, e, h⟩
theorem x_pow (e : CPow a b) (h : Q (.int (a ^ b.toNat)) H) : r_pow (.int a) (.int b) H Q := ⟨a, b, rfl, rfl, e, h⟩
theorem x_lt (h : Q (.bl (decide (a < b))) H) : r_lt (.int a) (.int b) H Q := ⟨a, b, rfl, rfl, h⟩
theorem x_le (h : Q (.bl (decide (a ≤ b))) H) : r_le (.int a) (.int b) H Q := ⟨a, b, rfl, rfl, h⟩
theorem x_gt (h : Q (.bl (decide (b < a))) H) : r_gt (.int a) (.int b) H Q := ⟨a, b, rfl, rfl, h⟩
theorem x_ge (h : Q (.bl (decide (b ≤ a))) H) : r_ge (.int a) (.int b) H Q := ⟨a, b, rfl, rfl, h⟩
theorem x_neg (h : Q (.int (-a)) H) : r_neg (.int a) H Q := ⟨a, rfl, h⟩
theorem x_eqI (h : Q (.bl (decide (a = b))) H) : rEq (.int a) (.int b) H Q := ⟨rfl, by
  have e : decide (V.int a = V.int b) = decide (a = b) := by simp
  rw [e]; exact h⟩
theorem x_neI (h : Q (.bl (!decide (a = b))) H) : rNe (.int a) (.int b) H Q := ⟨rfl, by
  have e : decide (V.int a = V.int b) = decide (a = b) := by simp
  rw [e]; exact h⟩
variable {x y : Str}
theorem x_eqS (h : Q (.bl (decide (x = y))) H) : rEq (.str x) (.str y) H Q := ⟨rfl, by
  have e : decide (V.str x = V.str y) = decide (x = y) := by simp
  rw [e]; exact h⟩
theorem x_neS (h : Q (.bl (!decide (x = y))) H) : rNe (.str x) (.str y) H Q := ⟨rfl, by
  have e : decide (V.str x = V.str y) = decide (x = y) := by simp
  rw [e]; exact h⟩
theorem x_eqV {p q : V} (e : scal p q = true) (h : Q (.bl (decide (p = q))) H) : rEq p q H Q := ⟨e, h⟩
theorem x_neV {p q : V} (e : scal p q = true) (h : Q (.bl (!decide (p = q))) H) : rNe p q H Q := ⟨e, h⟩
theorem x_cat (e : x.length + y.length ≤ sizeLine) (h : Q (.str (x ++ y)) H) : r_cat (.str x) (.str y) H Q := ⟨x, y, rfl, rfl, e, h⟩
theorem x_isN {p : V} (h : Q (.bl (decide (p = .non))) H) : r_isN p .non H Q := ⟨rfl, h⟩
theorem x_notN {p : V} (h : Q (.bl (!decide (p = .non))) H) : r_notN p .non H Q := ⟨rfl, h⟩
theorem x_len {K : PySem.W.Frag} {p : Addr} {ys : List V} (e : SqL K H p ys) (h : Q (.int ys.length) H) : c_len K [.ref p] H Q := ⟨p, ys, rfl, .inl e, h⟩
theorem x_lenT {K : PySem.W.Frag} {p : Addr} {ys : List V} (e : SqT K H p ys) (h : Q (.int ys.length) H) : c_len K [.ref p] H Q := ⟨p, ys, rfl, .inr e, h⟩
theorem x_lenS (e : x.length ≤ sizeLine) (h : Q (.int x.length) H) : c_lenS [.str x] H Q := ⟨x, rfl, e, h⟩
theorem x_lenD {p : Addr} {kvs : List (Key × V)} (e : H p = some (.dK kvs)) (h : Q (.int kvs.length) H) : c_lenD [.ref p] H Q := ⟨p, kvs, rfl, e, h⟩
theorem x_min2 (h : Q (.int (if b < a then b else a)) H) : c_min2 [.int a, .int b] H Q := ⟨a, b, rfl, h⟩
theorem x_max2 (h : Q (.int (if b > a then b else a)) H) : c_max2 [.int a, .int b] H Q := ⟨a, b, rfl, h⟩
theorem x_list {K : PySem.W.Frag} {p : Addr} {ys : List V} (e : SqL K H p ys) (h : ∀ l, H l = none → Q (.ref l) (upd H l (.lst ys))) : c_list K [.ref p] H Q := ⟨p, ys, rfl, .inl e, h⟩
theorem x_listT {K : PySem.W.Frag} {p : Addr} {ys : List V} (e : SqT K H p ys) (h : ∀ l, H l = none → Q (.ref l) (upd H l (.lst ys))) : c_list K [.ref p] H Q := ⟨p, ys, rfl, .inr e, h⟩
theorem x_listD {p : Addr} {kvs : List (Key × V)} (e : Rd H p (.dK kvs)) (h : ∀ l, H l = none → Q (.ref l) (upd H l (.lst (kvs.map fun kv => kV kv.1)))) : c_listD [.ref p] H Q := ⟨p, kvs, rfl, e, h⟩
theorem x_dictD {p : Addr} {kvs : List (Key × V)} (e : Rd H p (.dK kvs)) (h : ∀ l, H l = none → Q (.ref l) (upd H l (.dK kvs))) : c_dictD [.ref p] H Q := ⟨p, kvs, rfl, e, h⟩
theorem x_intB {k : Bool} (h : Q (.int (if k then 1 else 0)) H) : c_int [.bl k] H Q := .inr ⟨k, rfl, h⟩
theorem x_strI (e : a.natAbs.log2 < 1920) (h : Q (.str (toString a)) H) : c_strI [.int a] H Q := ⟨a, rfl, e, h⟩
theorem x_ixL {K : PySem.W.Frag} {p : Addr} {xs : List V} {v : V} (e : SqL K H p xs) (e2 : atI xs a = some v) (h : Q v H) : rIxL K (.ref p) (.int a) H Q := ⟨p, xs, a, v, rfl, rfl, e, e2, h⟩
theorem x_ixT {K : PySem.W.Frag} {p : Addr} {xs : List V} {v : V} (e : SqT K H p xs) (e2 : atI xs a = some v) (h : Q v H) : rIxT K (.ref p) (.int a) H Q := ⟨p, xs, a, v, rfl, rfl, e, e2, h⟩
theorem x_ixS {c : Nat} (e : x.length ≤ sizeLine) (e2 : atI x.cps.toList a = some c) (h : Q (.str ⟨#[c]⟩) H) : rIxS (.str x) (.int a) H Q := ⟨x, a, c, rfl, rfl, e, e2, h⟩
theorem x_slL {K : PySem.W.Frag} {p : Addr} {xs : List V} {lo hi : Option Int} (e : SqL K H p xs) (h : ∀ l, H l = none → Q (.ref l) (upd H l (.lst (cutV xs lo hi)))) : rSlL K (.ref p) lo hi H Q := ⟨p, xs, rfl, e, h⟩
theorem x_slS {lo hi : Option Int} (e : x.length ≤ sizeLine) (h : Q (.str (cutS x lo hi)) H) : rSlS (.str x) lo hi H Q := ⟨x, rfl, e, h⟩
theorem x_in {K : PySem.W.Frag} {p : Addr} {xs : List V} (e : SqL K H p xs) (e1 : flatV v = true) (e2 : xs.all flatV = true) (h : Q (.bl (inV v xs)) H) : rIn K false v (.ref p) H Q := ⟨p, xs, rfl, .inl e, e1, e2, h⟩
theorem x_ni {K : PySem.W.Frag} {p : Addr} {xs : List V} (e : SqL K H p xs) (e1 : flatV v = true) (e2 : xs.all flatV = true) (h : Q (.bl (!inV v xs)) H) : rIn K true v (.ref p) H Q := ⟨p, xs, rfl, .inl e, e1, e2, h⟩
theorem x_inC {c : Nat} (h : Q (.bl (decide (c ∈ x.cps.toList))) H) : r_inC (.str ⟨#[c]⟩) (.str x) H Q := ⟨c, x, rfl, rfl, h⟩
theorem x_niC {c : Nat} (h : Q (.bl (!decide (c ∈ x.cps.toList))) H) : r_niC (.str ⟨#[c]⟩) (.str x) H Q := ⟨c, x, rfl, rfl, h⟩
theorem x_isi {K : PySem.W.Frag} {p q : V} {t u : Value} {k : Bool} (e1 : ClsV q u) (e2 : TyX K H p t) (e3 : PySem.W.kitOne K t u = some k) (h : Q (.bl k) H) : rIsi K [p, q] H Q := ⟨p, q, t, u, k, rfl, e1, e2, e3, h⟩
end
theorem x_ite {b : Bool} {A B : Prop} (h1 : b = true → A) (h2 : b = false → B) : if b = true then A else B := by
  cases b with
  | true => exact iteT (h1 rfl)
  | false => exact iteF (h2 rfl)
end Kr
namespace Kr
open PySem PySem.Spec PyProof.Rows L2
/-! ### sets of texts: set(xs), sorted of it. The road is the hand layer's for sets of ints, turned to texts of any number. -/
def keyT (e : Int × Value) : Str := match e.2 with | .str x _ => x | _ => Str.empty
def GoodT (w : World) (e : Int × Value) : Prop := ∃ x tk, e.2 = Value.str x tk ∧ e.1 = hashStr w x
/-- the set of texts at a: S its members, n their number -/
def SetT (w : World) (h : Heap) (a : Addr) (S : Str → Bool) (n : Nat) : Prop :=
  ∃ o es ep t, h.get? a = some o ∧ o.ExactSet ∧ o.data = .set es ep t ∧ (∀ e ∈ es.toList, GoodT w e) ∧ (es.toList.map keyT).Nodup ∧ (∀ k, S k = true ↔ k ∈ es.toList.map keyT) ∧
    es.size < scanBound ∧ t.fits es.size = true ∧ es.size = n ∧ Ris t.place.toList ∧ (w.params.followText "set-order" = true ∨ t.led = true)
section
variable {P : Program} {w : World} {h h' : Heap} {a : Addr} {S : Str → Bool} {n : Nat}
theorem SetT.at (R : SetT w h a S n) (k : ∀ o, h.get? a = some o → h'.get? a = some o) : SetT w h' a S n := by
  obtain ⟨o, es, ep, t, ho, r⟩ := R
  exact ⟨o, es, ep, t, k o ho, r⟩
theorem SetT.congr {S' : Str → Bool} {m : Nat} (R : SetT w h a S n) (e : ∀ k, S' k = S k) (em : n = m) : SetT w h a S' m := by
  have q : S' = S := funext e
  subst em
  rw [q]; exact R
theorem goodT_elems {l : List (Int × Value)} (g : ∀ e ∈ l, GoodT w e) : ElemsOf (PySem.strKind P w) l := fun e he => by
  obtain ⟨k, tk, h1, h2⟩ := g e he
  exact ⟨⟨k, by rw [h1]; exact strKind_is P w k tk, h2⟩, by rw [h1] <;> rfl⟩
theorem goodT_is {e : Int × Value} (g : GoodT w e) (k : Str) : (PySem.strKind P w).is k e.2 = true ↔ keyT e = k := by
  obtain ⟨k0, tk, h1, _⟩ := g
  unfold keyT
  rw [h1]
  show ((k0 == k) = true) ↔ k0 = k
  exact beq_iff_eq
theorem goodT_mem {l : List (Int × Value)} (g : ∀ e ∈ l, GoodT w e) (k : Str) : k ∈ l.map keyT ↔ ∃ e ∈ l, (PySem.strKind P w).is k e.2 = true := by
  rw [List.mem_map]
  constructor
  · rintro ⟨e, he, q⟩
    exact ⟨e, he, (goodT_is (g e he) k).2 q⟩
  · rintro ⟨e, he, q⟩
    exact ⟨e, he, (goodT_is (g e he) k).1 q⟩
end
section
variable {P : Program} {w : World} {A : Around} {E : Value → Shared → Prop} {s : Shared} {a : Addr} {S : Str → Bool} {n : Nat}
theorem setT_tail {g : Bool → Sem Unit} (hg : ∀ (b : Bool) (s₁ : Shared) (Q' : Unit → Shared → Prop), Q' () s₁ → wpAny (model P w) A (g b) Q' E s₁)
    {o : Obj} {es : Array (Int × Value)} {ep : Nat} {t : SetTable} (ho : s.heap.get? a = some o) (hex : o.ExactSet) (hd : o.data = .set es ep t)
    {es1 : Array (Int × Value)} {t2 : SetTable} {S' : Str → Bool} (g1 : ∀ e ∈ es1.toList, GoodT w e) (nd1 : (es1.toList.map keyT).Nodup) (m1 : ∀ k, S' k = true ↔ k ∈ es1.toList.map keyT)
    (hb1 : es1.size < scanBound) (hf2 : t2.fits es1.size = true) (hr : Ris t2.place.toList) (hl : w.params.followText "set-order" = true ∨ t2.led = true) {wasDummy : Bool} {R : Option Bool → Shared → Prop}
    (hR : ∀ h', Heap.SameBut a s.heap h' → SetT w h' a S' es1.size → R (some true) { s with heap := h' }) :
    wpAny (model P w) A (do
        storeSet a es1 t2
        if (!wasDummy && t2.tooFull) = true then do
            g (relayAll t2 es1 (SetTable.grown es1.size)).2.2
            storeSet a (relayAll t2 es1 (SetTable.grown es1.size)).1 (relayAll t2 es1 (SetTable.grown es1.size)).2.1
            pure (some true)
          else pure (some true)) R E s := by
  refine wpAny_bind (wpAny_storeSet_of ho hd ?_ (fits_of_scanBound hb1))
  have ho1 := store_at (es' := es1) (t' := t2) ho hd
  have sb1 := Heap.SameBut.update s.heap a (Obj.putSet es1 t2)
  split
  · have pm := relayAll_perm t2 es1 (SetTable.grown es1.size)
    have hf3 := relayAll_fits t2 es1 (SetTable.grown es1.size)
    have hr3 := relayAll_ris t2 es1 (SetTable.grown es1.size)
    have hl3 := relayAll_led t2 es1 (SetTable.grown es1.size)
    generalize relayAll t2 es1 (SetTable.grown es1.size) = Z at pm hf3 hr3 hl3 ⊢
    obtain ⟨es2, t3, gave⟩ := Z
    dsimp only at pm hf3 hr3 hl3 ⊢
    have hsz : es2.size = es1.size := by rw [← Array.length_toList, pm.length_eq, Array.length_toList]
    have hb2 : es2.size < scanBound := by rw [hsz]; exact hb1
    refine wpAny_bind (hg _ _ _ ?_)
    refine wpAny_bind (wpAny_storeSet_of ho1 rfl ?_ (fits_of_scanBound hb2))
    have ho2 := store_at (es' := es2) (t' := t3) ho1 rfl
    refine wpAny_pure (hR _ (sb1.trans (Heap.SameBut.update _ a _)) ?_)
    exact ⟨_, es2, _, t3, ho2, hex, rfl, fun e he => g1 e (pm.mem_iff.mp he), (pm.map keyT).nodup_iff.mpr nd1, fun k => (m1 k).trans (pm.map keyT).mem_iff.symm, hb2, hf3, hsz, hr3,
      hl.imp id fun z => by rw [hl3]; exact z⟩
  · exact wpAny_pure (hR _ sb1 ⟨_, es1, _, t2, ho1, hex, rfl, g1, nd1, m1, hb1, hf2, rfl, hr, hl⟩)
theorem setT_add {k : Str} {tk : Tok} {Q : Bool → Shared → Prop} (R : SetT w s.heap a S n) (room : n + 1 < scanBound)
    (hQ : ∀ h', Heap.SameBut a s.heap h' → SetT w h' a (fun j => S j || decide (j = k)) (if S k = true then n else n + 1) → Q (!S k) { s with heap := h' }) :
    wpAny (model P w) A (setAddHashed a (.str k tk) ((PySem.strKind P w).hash k)) Q E s := by
  obtain ⟨o, es, ep, t, ho, hex, hd, g, nd, hm, hb, hf, hn, hr, hl⟩ := R
  have hkey : (PySem.strKind P w).is k (.str k tk) = true := strKind_is P w k tk
  have hsc : (Value.str k tk).scannable = true := rfl
  have hel : ElemsOf (PySem.strKind P w) es.toList := goodT_elems g
  unfold setAddHashed setAddHashedIn
  refine wpAny_holding (wpAny_bind (wpAny_setState_of ho hd hf ?_))
  dsimp only
  rw [byScan_of hsc hb hel]
  simp only [↓reduceIte]
  unfold setAddByScan
  refine wpAny_bind ?_
  refine wpAny_bind (wpAny_rule ?_)
  refine wpAny_bind (wpAny_setScan_of hkey ho hd hf hel ?_)
  cases hfi : List.findIdx? (fun e => (PySem.strKind P w).is k e.2) es.toList with
  | some j =>
    dsimp only
    obtain ⟨hj, pj, _⟩ := List.findIdx?_eq_some_iff_getElem.mp hfi
    have hSk : S k = true := (hm k).2 ((goodT_mem (P := P) (w := w) g k).2 ⟨es.toList[j], List.getElem_mem hj, pj⟩)
    refine wpAny_pure (wpAny_pure ?_)
    have q := hQ s.heap (Heap.SameBut.refl a s.heap) ⟨o, es, ep, t, ho, hex, hd, g, nd, fun i => by
      rw [Bool.or_eq_true, decide_eq_true_eq, ← hm i]
      exact ⟨fun z => z.elim id (fun e => e ▸ hSk), .inl⟩, hb, hf, by rw [if_pos hSk]; exact hn, hr, hl⟩
    rw [hSk] at q
    exact q
  | none =>
    dsimp only
    have hnk : k ∉ es.toList.map keyT := fun z => by
      obtain ⟨e, he, q⟩ := (goodT_mem (P := P) (w := w) g k).1 z
      have c := List.findIdx?_eq_none_iff.mp hfi e he
      rw [q] at c
      cases c
    have hSk : S k = false := by
      cases q : S k with
      | false => rfl
      | true => exact absurd ((hm k).1 q) hnk
    have hgw : ∀ (b : Bool) {s₁ : Shared} {Q' : Unit → Shared → Prop}, Q' () s₁ → wpAny (model P w) A (match b with | true => rule "set.scan.the-table-gave-way" | false => pure ()) Q' E s₁ :=
      fun b s₁ Q' q => by cases b <;> first | exact wpAny_pure q | exact wpAny_rule q
    have pm := layNew_perm t es ((PySem.strKind P w).hash k) (.str k tk)
    have hf1 := layNew_fits t es ((PySem.strKind P w).hash k) (.str k tk)
    have hr1 := layNew_ris t es ((PySem.strKind P w).hash k) (.str k tk) hr
    have hl1 := layNew_led t es ((PySem.strKind P w).hash k) (.str k tk)
    generalize layNew t es ((PySem.strKind P w).hash k) (.str k tk) = Z at pm hf1 hr1 hl1 ⊢
    obtain ⟨es1, t1, wasDummy, gave⟩ := Z
    dsimp only at pm hf1 hr1 hl1 ⊢
    rw [Array.toList_push] at pm
    have pc : es1.toList.Perm (((PySem.strKind P w).hash k, Value.str k tk) :: es.toList) := pm.trans (List.perm_append_singleton _ _)
    have pk : (es1.toList.map keyT).Perm (k :: es.toList.map keyT) := pc.map keyT
    have g1 : ∀ e ∈ es1.toList, GoodT w e := fun e he => by
      rcases List.mem_cons.mp (pc.mem_iff.mp he) with z | z
      · rw [z]; exact ⟨k, tk, rfl, rfl⟩
      · exact g e z
    have nd1 : (es1.toList.map keyT).Nodup := pk.nodup_iff.mpr (List.nodup_cons.mpr ⟨hnk, nd⟩)
    have m1 : ∀ i, (S i || decide (i = k)) = true ↔ i ∈ es1.toList.map keyT := fun i => by
      rw [Bool.or_eq_true, decide_eq_true_eq, hm i, pk.mem_iff, List.mem_cons]
      exact Or.comm
    have hsz : es1.size = n + 1 := by rw [← Array.length_toList, pc.length_eq, List.length_cons, Array.length_toList, hn]
    have hb1 : es1.size < scanBound := by rw [hsz]; exact room
    have hled : w.params.followText "set-order" = true ∨ t1.led = true := hl.imp id fun z => by rw [hl1]; exact z
    have fin : ∀ h', Heap.SameBut a s.heap h' → SetT w h' a (fun j => S j || decide (j = k)) es1.size → Q true { s with heap := h' } := fun h' sb r => by
      have q := hQ h' sb
      rw [hSk] at q
      rw [hsz] at r
      exact q r
    refine wpAny_bind (hgw _ ?_)
    split
    · refine wpAny_bind ?_
      rw [hashByValue_scannable 8 hsc]
      refine wpAny_pure ?_
      refine setT_tail ?_ ho hex hd g1 nd1 m1 hb1 ?_ ?_ ?_ ?_
      · intro b s₁ Q' q; cases b <;> first | exact wpAny_pure q | exact wpAny_rule q
      · first | (split <;> first | exact hf1 | exact SetTable.fits_plain_off hf1) | exact hf1
      · first | (split <;> exact hr1) | exact hr1
      · first | (split <;> exact hled) | exact hled
      · intro h' sb r; dsimp only; exact wpAny_pure (fin h' sb r)
    · refine wpAny_bind (wpAny_pure ?_)
      simp only [↓reduceIte]
      refine setT_tail ?_ ho hex hd g1 nd1 m1 hb1 hf1 hr1 hled ?_
      · intro b s₁ Q' q; cases b <;> first | exact wpAny_pure q | exact wpAny_rule q
      · intro h' sb r; dsimp only; exact wpAny_pure (fin h' sb r)
end
section
variable {prog : Program} {w : World} {A : Around} {R : Result → Shared → Prop} {I : Addr} {fp wr : List Addr} {G : Array GenState → Array GenState → Prop} {n : Nat} {P : Nat → Value → Prop} {St : Nat → Shared → Prop}
/-- how many have been met -/
def metN (xs : List Str) : Nat → Nat
  | 0 => 0
  | i + 1 => if (xs.take i).any (· == xs.getD i Str.empty) = true then metN xs i else metN xs i + 1
theorem metN_le (xs : List Str) : ∀ i, metN xs i ≤ i
  | 0 => Nat.le_refl 0
  | i + 1 => by
    have := metN_le xs i
    unfold metN
    split <;> omega
theorem any_take {xs : List Str} {i : Nat} (hi : i < xs.length) (k : Str) : (xs.take (i + 1)).any (· == k) = ((xs.take i).any (· == k) || decide (k = xs.getD i Str.empty)) := by
  rw [List.take_add_one, List.getElem?_eq_getElem hi, List.any_append]
  have e : xs.getD i Str.empty = xs[i] := by simp [List.getD, hi]
  rw [e]
  congr 1
  show ([xs[i]].any fun x => x == k) = decide (k = xs[i])
  by_cases q : k = xs[i]
  · subst q; simp
  · have hb : (xs[i] == k) = false := by simpa using fun z : xs[i] = k => q z.symm
    simp [hb, q]
theorem loopT (W : WalksS prog w A.in1 I fp wr G n P St) (S : Addr) (hSf : S ∉ fp) (xs : List Str) (hsz : xs.length = n) (hn1 : n + 1 < scanBound)
    (hval : ∀ i v, P i v → ∃ t, v = .str (xs.getD i Str.empty) t) :
    ∀ (k i : Nat) (s : Shared), n - i = k → i ≤ n → St i s →
      SetT w s.heap S (fun k' => (xs.take i).any (· == k')) (metN xs i) →
      (∀ s', Moved (S :: wr) G s s' → SetT w s'.heap S (fun k' => (xs.take n).any (· == k')) (metN xs n) → R (.ok (.ret .none)) s') →
      codeAny (model prog w) A (.builtin "set.update.loop" ⟨[.ref S, .ref I], []⟩) R s := by
  have hSw : S ∉ wr := fun h => hSf (W.sub _ h)
  have hsub : ∀ b ∈ wr, b ∈ S :: wr := fun b hb => List.mem_cons_of_mem _ hb
  intro k
  induction k with
  | zero =>
    intro i s hk hi hst hS hR
    have hin : i = n := by omega
    subst hin
    refine codeAny_builtin PyProof.Rows.F.entry_set_update_loop ?_
    rw [Around.under_plainId PyProof.Rows.F.plain_set_update_loop _]
    show wpAny _ A.in1 (pyNext (.ref I) >>= _) _ _ s
    refine wpAny_bind (W.done s _ _ hst fun s' hm => ?_)
    show wpAny _ A.in1 (ret Value.none) _ _ s'
    exact wpAny_pure (hR s' (hm.mono hsub) (hS.at fun o ho => hm.heap S _ hSw ho))
  | succ k ih =>
    intro i s hk hi hst hS hR
    have hlt : i < n := by omega
    refine codeAny_builtin PyProof.Rows.F.entry_set_update_loop ?_
    rw [Around.under_plainId PyProof.Rows.F.plain_set_update_loop _]
    show wpAny _ A.in1 (pyNext (.ref I) >>= _) _ _ s
    refine wpAny_bind (W.item i s _ _ hlt hst fun v s' hP hst' hm => ?_)
    obtain ⟨t, rfl⟩ := hval i v hP
    have hS' : SetT w s'.heap S (fun k' => (xs.take i).any (· == k')) (metN xs i) := hS.at fun o ho => hm.heap S _ hSw ho
    show wpAny _ A.in1 (holding [Value.str (xs.getD i Str.empty) t] (setAdd S (.str (xs.getD i Str.empty) t)) >>= _) _ _ s'
    refine wpAny_bind (wpAny_holding ?_)
    unfold setAdd
    refine wpAny_holding ?_
    refine wpAny_bind ((PySem.strKind prog w).pyHash (k := xs.getD i Str.empty) (strKind_is _ _ _ _) ?_)
    have hle := metN_le xs i
    refine setT_add (s := { s' with toks := s'.toks + 1 }) hS' (by omega) fun h' hsb hS2 => ?_
    have hSi : SetT w h' S (fun k' => (xs.take (i + 1)).any (· == k')) (metN xs (i + 1)) := hS2.congr (fun k' => any_take (by omega) k') rfl
    refine wpAny_pure ⟨plainId_quiet PyProof.Rows.F.plain_set_update_loop _, ih (i + 1) _ (by omega) hlt (W.frame _ s' _ _ hst' (Nat.le_succ _) fun b hb o e => ?_) hSi fun s'' hm'' hS'' => ?_⟩
    · rw [hsb.2 b (fun h : b = S => hSf (by rw [← h]; exact hb))]; exact e
    · refine hR s'' (Moved.trans W.gtrans ((hm.mono hsub).then_heap (Nat.le_succ _) fun b o hb e => ?_) hm'') hS''
      rw [hsb.2 b (fun h : b = S => hb (by rw [h]; exact List.mem_cons_self))]; exact e
end
section
variable {prog : Program} {w : World} {A : Around} {E : Value → Shared → Prop} {s : Shared}
theorem code_set_new_led1 (a : Value) {Q₁ : Value → Shared → Prop}
    (h : Q₁ (.ref s.heap.objs.size) { s with heap := s.heap.push { cls := .type "set", dict := none, data := .set #[] 0 (.fresh 0 0 (!w.params.followText "set-order")) } }) :
    codeAny (model prog w) A (.call (.builtin "set.__new__") ⟨[.type "set", a], []⟩) (wants Q₁ E) s := by
  refine codeAny_of_tree ?_
  show wpAny _ A.in1 (do checkBuiltinCall "set.__new__" ⟨[.type "set", a], []⟩; again (.builtin "set.__new__" ⟨[.type "set", a], []⟩)) _ _ s
  refine wpAny_bind (wpAny_of_eq (F.newCall_set_1 a) (wpAny_pure ⟨plainId_quiet F.plain_set_new _, codeAny_builtin F.entry_set_new ?_⟩))
  rw [Around.under_plainId F.plain_set_new _]
  unfold Builtin.«set.__new__» Builtin.Frozenset.newClass
  have hsub := sub_set_self
  obtain ⟨hp, g, d, tk, os⟩ := s
  dsimp only
  wp_walk
  refine wpAny_askSetting (wpAny_pure ?_)
  dsimp only
  simp only [newObj]
  refine wpAny_bind (wpAny_alloc (wpAny_pure ?_))
  exact wpAny_pure h
set_option maxHeartbeats 3200000 in
/-- set(xs) of a list of texts -/
theorem call_setT {l : Addr} {items : Array Value} {xs : List Str} {Q : Value → Shared → Prop}
    (hh : A.handled = none) (hl : s.heap.IsList l items) (hi : PyProof.Rows.StrsAre items.toList xs) (hn1 : xs.length + 1 < scanBound)
    (h : ∀ (h' : Heap) (tk : Nat), SetT w h' s.heap.objs.size (fun k' => xs.any (· == k')) (metN xs xs.length) →
      (∀ b o, b < s.heap.objs.size → s.heap.get? b = some o → h'.get? b = some o) → Q (.ref s.heap.objs.size) { s with heap := h', toks := tk }) :
    wpAny (model prog w) A (call (.type "set") [.ref l]) Q E s := by
  have hsz : xs.length = items.size := by rw [← StrsAre.len_eq hi, Array.length_toList]
  obtain ⟨c, tl, hmro⟩ := PySem.F.called_set.mro
  have hmade := PySem.F.called_set.made
  have hsub := PySem.F.called_set.sub
  refine wpAny_call (codeAny_of_tree ?_)
  show wpAny _ _ (callAny (.type "set") _) _ _ _
  refine wpAny_pure ⟨Code.quiet_builtin _ (by decide +kernel), codeAny_builtin PySem.F.entry_type_call ?_⟩
  rw [Around.under_plain (weight_type_call_type "set" [.ref l] []) rfl]
  have h1 := PySem.F.called_set.notType
  have h2 := PySem.F.called_set.canCreate
  have hct := PySem.F.typeCall_set_1 (.ref l)
  repeat (any_goals (first | assumption | wp_step))
  refine codeAny_mono (code_set_new_led1 (.ref l) (E := E) (Q₁ := fun obj s₁ => obj = .ref s.heap.objs.size ∧ s₁ = { s with heap := s.heap.push { cls := .type "set", dict := none, data := .set #[] 0 (.fresh 0 0 (!w.params.followText "set-order")) } }) ⟨rfl, rfl⟩) fun r s₁ hr => ?_
  cases r with
  | error e => exact hr
  | ok fl =>
    cases fl with
    | ret obj =>
      obtain ⟨rfl, rfl⟩ := hr
      have hS : (s.heap.push { cls := .type "set", dict := none, data := .set #[] 0 (.fresh 0 0 (!w.params.followText "set-order")) }).get? s.heap.objs.size = some { cls := .type "set", dict := none, data := .set #[] 0 (.fresh 0 0 (!w.params.followText "set-order")) } := Heap.get?_push_size _ rfl
      have hT : Shared.TypeIs { s with heap := s.heap.push { cls := .type "set", dict := none, data := .set #[] 0 (.fresh 0 0 (!w.params.followText "set-order")) } } (.ref s.heap.objs.size) "set" := ⟨_, hS, rfl⟩
      have hli := PySem.F.called_set.init.lookup
      have hbi := PySem.F.called_set.init.bind (.ref s.heap.objs.size)
      repeat (any_goals (first | assumption | wp_step))
      refine codeAny_mono (codeAny_call_builtin (R := wants (fun r s₂ => r = .none ∧ ∃ h' tk, s₂ = { s with heap := h', toks := tk } ∧
          SetT w h' s.heap.objs.size (fun k' => xs.any (· == k')) (metN xs xs.length) ∧
          (∀ b o, b < s.heap.objs.size → s.heap.get? b = some o → h'.get? b = some o)) E) PySem.F.called_set.init.plain PySem.F.entry_set_init (check_set_init_1 hT ?_)) fun r₂ s₂ hr₂ => ?_
      · obtain ⟨ol, hol, hcl, nl, hdl⟩ := hl
        obtain ⟨ocls, odict, odata, oslots⟩ := ol
        simp only at hcl hdl
        subst hcl; subst hdl
        have hol' : (s.heap.push { cls := .type "set", dict := none, data := .set #[] 0 (.fresh 0 0 (!w.params.followText "set-order")) }).get? l = some { cls := .type "list", dict := odict, data := .seq items nl, slots := oslots } := Heap.get?_push_of_some _ hol
        have hsls := PySem.F.sub_list_set
        have hslf := PySem.F.sub_list_frozenset
        have hne : (Value.type "list" == Value.type "dict") = false := by decide
        have hl1 : (s.heap.push { cls := .type "set", dict := none, data := .set #[] 0 (.fresh 0 0 (!w.params.followText "set-order")) }).IsList l items := ⟨_, hol', rfl, nl, rfl⟩
        unfold Builtin.«set.__init__» noKeywords Builtin.Frozenset.updateFrom
        generalize hPI : pyIter = PI
        wp_walk
        subst hPI
        refine wpAny_pyIter_list hl1 ?_
        refine wpAny_bind (wpAny_runValue ?_)
        have hlS : l < s.heap.objs.size := Heap.lt_size hol
        have hh3 : A.in1.in1.in1.handled = none := by simp [hh]
        have hneI : l ≠ (s.heap.push { cls := .type "set", dict := none, data := .set #[] 0 (.fresh 0 0 (!w.params.followText "set-order")) }).objs.size := by
          rw [Heap.size_push]; exact Nat.ne_of_lt (Nat.lt_succ_of_lt hlS)
        have hSf : s.heap.objs.size ∉ [(s.heap.push { cls := .type "set", dict := none, data := .set #[] 0 (.fresh 0 0 (!w.params.followText "set-order")) }).objs.size, l] := by
          rw [Heap.size_push]; simp only [List.mem_cons, List.mem_singleton, List.not_mem_nil, or_false, not_or]
          exact ⟨Nat.ne_of_lt (Nat.lt_succ_self _), Nat.ne_of_gt hlS⟩
        have hval : ∀ (i : Nat) (v : Value), items[i]? = some v → ∃ t, v = .str (xs.getD i Str.empty) t := fun i v hv => SS.strs_at hi i v (by rw [Array.getElem?_toList]; exact hv)
        refine loopT ((Walks.list hh3 _ l hneI items).toS) s.heap.objs.size
          hSf xs hsz (by rw [← hsz]; exact hn1) hval (items.size - 0) 0 _ (by omega) (Nat.zero_le _)
          ⟨⟨_, Heap.get?_push_size _ rfl, rfl, rfl⟩, (hl1.push _)⟩ ?hS0 ?hR
        case hS0 =>
          have z : SetT w (s.heap.push { cls := .type "set", dict := none, data := .set #[] 0 (.fresh 0 0 (!w.params.followText "set-order")) }) s.heap.objs.size (fun _ => false) 0 :=
            ⟨_, #[], 0, _, hS, ⟨rfl, rfl, rfl⟩, rfl, (fun e he => by simp at he), (by simp), (fun k => by simp), (by decide), (by rfl), rfl, List.Pairwise.nil, by
              show _ ∨ (!w.params.followText "set-order") = true
              cases w.params.followText "set-order"
              · exact .inr rfl
              · exact .inl rfl⟩
          exact (z.at fun o ho => Heap.get?_push_of_some _ ho).congr (fun _ => rfl) rfl
        case hR =>
          intro s' hm hS'
          rw [← hsz, List.take_length] at hS'
          obtain ⟨h', g', d', tk', os'⟩ := s'
          have eg : g' = s.gens := hm.gens
          have ed : d' = s.drawn := hm.drawn
          have eo : os' = s.os := hm.os
          subst eg; subst ed; subst eo
          show wpAny _ _ _ _ _ _
          refine wpAny_pure ?_
          show wpAny _ _ (ret Value.none) _ _ _
          refine wpAny_pure ⟨rfl, h', tk', rfl, hS', fun b o hb e => ?_⟩
          have hb1 : b ≠ s.heap.objs.size := Nat.ne_of_lt hb
          have hb2 : b ≠ (s.heap.push { cls := .type "set", dict := none, data := .set #[] 0 (.fresh 0 0 (!w.params.followText "set-order")) }).objs.size := by
            rw [Heap.size_push]; exact Nat.ne_of_lt (Nat.lt_succ_of_lt hb)
          exact hm.heap b o (by simp only [List.mem_cons, List.mem_singleton, List.not_mem_nil, or_false, not_or]; exact ⟨hb1, hb2⟩) (Heap.get?_push_of_some _ (Heap.get?_push_of_some _ e))
      · cases r₂ with
        | error e => exact hr₂
        | ok fl₂ =>
          cases fl₂ with
          | ret r =>
            obtain ⟨rfl, h', tk, rfl, hS', hk'⟩ := hr₂
            repeat (any_goals (first | assumption | wp_step))
            exact h _ _ hS' hk'
          | _ => exact hr₂.elim
    | _ => exact hr.elim
theorem strsT_of : ∀ (l : List Value), (∀ v ∈ l, ∃ k tk, v = Value.str k tk) → StrsAre l (l.map fun v => match v with | .str x _ => x | _ => Str.empty)
  | [], _ => .nil
  | v :: l, h => by
    obtain ⟨k, tk, rfl⟩ := h v List.mem_cons_self
    exact .cons k tk (strsT_of l fun u hu => h u (List.mem_cons_of_mem _ hu))
/-- sorted(the set at a) -/
theorem sorted_setT {a : Addr} {S : Str → Bool} {n : Nat} {Q : Value → Shared → Prop} (R : SetT w s.heap a S n) (hh : A.handled = none)
    (hQ : ∀ s' p (out : Array Value) (c : Nat) (ns : List Str), (∀ b o, s.heap.get? b = some o → s'.heap.get? b = some o) → s'.gens = s.gens → s'.os = s.os → s.heap.objs.size ≤ p →
      s'.heap.get? p = some (seqObj "list" out c) → StrsAre out.toList ns → sortedS ns = true → ns.Nodup → (∀ k, k ∈ ns ↔ S k = true) → ns.length = n → Q (.ref p) s') :
    wpAny (model prog w) A (call (.builtin "sorted") [.ref a]) Q E s := by
  obtain ⟨o, es, ep, t, ho, hex, hd, g, nd, hm, hb, hf, hn, hr, hl⟩ := R
  refine Calls.call_function_entry kind_sorted plain_sorted entry_sorted (args_sorted1 _) ?_
  unfold Builtin.«sorted»
  refine wpAny_bind (m := checkCount "sorted" 1 1 _) (wpAny_pure ?_)
  refine wpAny_bind (collect_set (A := A.in1) hh ⟨o, ho, hex.1, hd⟩ hf hb hr hl fun s1 vs k1 hz g1 o1 pm => ?_)
  have hvl : vs.length = n := by rw [pm.length_eq, List.length_map, Array.length_toList]; exact hn
  have hI := strsT_of vs fun v hv => by
    obtain ⟨e, he, q⟩ := List.mem_map.mp (pm.mem_iff.mp hv)
    obtain ⟨k, tk, h1, _⟩ := g e he
    exact ⟨k, tk, by rw [← q]; exact h1⟩
  have pk : (vs.map fun v => match v with | .str x _ => x | _ => Str.empty).Perm (es.toList.map keyT) := by
    have q := pm.map fun v : Value => match v with | .str x _ => x | _ => Str.empty
    rw [List.map_map] at q
    exact q
  have hL : vs.length ≤ sizeLine := by rw [hvl, sizeLine_eq, ← hn]; unfold scanBound at hb; omega
  refine wpAny_bind (wpAny_newList ?_ hL)
  have hoL : (s1.heap.push (seqObj "list" vs.toArray 0)).get? s1.heap.objs.size = some (seqObj "list" vs.toArray 0) := Heap.get?_push_size _ rfl
  refine wpAny_bind (wpAny_holding (wpAny_call_entry slot_list_sort ⟨_, hoL, rfl⟩ entry_list_sort
    (list_sort_treeKAny strKind_oneLt (s := { s1 with heap := s1.heap.push (seqObj "list" vs.toArray 0) }) hoL hI.keysOf (fun v₁ v₂ rest e => keyKind_strs (by rw [← e]; exact hI)) hL fun st' hp hs => ⟨_, rfl, ?_⟩) (args_list_sort _)))
  obtain ⟨ys, q1, q2, q3⟩ := sorted_out_str hI hp hs
  obtain ⟨c, hc⟩ := sortedHeap_at (vs := vs) (out := (arrOf st').map (·.2)) hoL
  have pn : ys.Perm (es.toList.map keyT) := q2.trans pk
  refine wpAny_pure ⟨_, rfl, hQ _ s1.heap.objs.size _ c ys (fun b u e => ?_) g1 o1 hz hc q1 q3 (pn.nodup_iff.mpr nd) (fun k => by rw [pn.mem_iff, ← hm k]) ?_⟩
  · have q := k1 b u e
    have hlt := Heap.lt_size q
    show (sortedHeap (s1.heap.push (seqObj "list" vs.toArray 0)) s1.heap.objs.size vs _).get? b = some u
    rw [sortedHeap_old (Nat.ne_of_lt hlt) (by rw [size_push']; exact Nat.lt_succ_of_lt hlt)]
    exact Heap.get?_push_of_some _ q
  · rw [pn.length_eq, List.length_map, Array.length_toList]; exact hn
end
end Kr
namespace Kr
open PySem PySem.Spec L2
/-! ### further rules -/
/-- a list against the empty list that is written -/
def r_nil (K : PySem.W.Frag) : R2 := fun x y H Q => ∃ a b xs, x = .ref a ∧ y = .ref b ∧ SqL K H a xs ∧ H b = some (.lst []) ∧ Q (.bl xs.isEmpty) H
def r_nnil (K : PySem.W.Frag) : R2 := fun x y H Q => ∃ a b xs, x = .ref a ∧ y = .ref b ∧ SqL K H a xs ∧ H b = some (.lst []) ∧ Q (.bl (!xs.isEmpty)) H
theorem o_nil {X : Cx} (hu : X.A.units + 64 < cLine) : OpR X (compareOp .Eq) (r_nil X.K) := by
  intro pins s σ H x y v u Q I rx ry h
  obtain ⟨a, b, xs, rfl, rfl, ha, hb, q⟩ := h
  cases rx
  cases ry
  obtain ⟨its, rv, pa, hz⟩ := I.list ha
  obtain ⟨jts, rw', pb, hz2⟩ := I.list (SqL.of hb)
  have ej : jts = [] := by cases rw'; rfl
  subst ej
  have hl := rv.length
  have fin : EP X pins σ Q (.bool xs.isEmpty) s := ⟨.bl xs.isEmpty, H, I, rfl, q⟩
  cases xs with
  | nil =>
    have ei : its = [] := List.eq_nil_of_length_eq_zero hl.symm
    subst ei
    exact SeqAt.eq_listAt (e := fun _ => true) pa.isList pb.isList rfl (by omega) (fun j h1 _ => absurd h1 (by simp)) fin
  | cons z zs =>
    have hne : (its.toArray.size != ([] : List Value).toArray.size) = true := by
      rw [List.length_cons] at hl
      simp only [List.size_toArray, List.length_nil, bne_iff_ne, ne_eq]
      omega
    exact SeqAt.eq_list_lengthsAt pa.isList pb.isList hne (by omega) fin
theorem o_nnil {X : Cx} (hu : X.A.units + 64 < cLine) : OpR X (compareOp .NotEq) (r_nnil X.K) := by
  intro pins s σ H x y v u Q I rx ry h
  obtain ⟨a, b, xs, rfl, rfl, ha, hb, q⟩ := h
  cases rx
  cases ry
  obtain ⟨its, rv, pa, hz⟩ := I.list ha
  obtain ⟨jts, rw', pb, hz2⟩ := I.list (SqL.of hb)
  have ej : jts = [] := by cases rw'; rfl
  subst ej
  have hl := rv.length
  have fin : EP X pins σ Q (.bool (!xs.isEmpty)) s := ⟨.bl (!xs.isEmpty), H, I, rfl, q⟩
  cases xs with
  | nil =>
    have ei : its = [] := List.eq_nil_of_length_eq_zero hl.symm
    subst ei
    exact SeqAt.RcNeAt.lists (e := fun _ => true) pa.isList pb.isList rfl (by omega) (fun j h1 _ => absurd h1 (by simp)) X.prog X.w _ _ fin
  | cons z zs =>
    have hne : (its.toArray.size != ([] : List Value).toArray.size) = true := by
      rw [List.length_cons] at hl
      simp only [List.size_toArray, List.length_nil, bne_iff_ne, ne_eq]
      omega
    exact SeqAt.RcNeAt.lists_lengths pa.isList pb.isList hne (by omega) X.prog X.w _ _ fin
/-- a dict that is made in the walked expression itself: it is locked from then on -/
def tFreeze (td : TE) : TE := fun σ H Q => td σ H fun x H1 => ∃ d kvs, x = .ref d ∧ H1 d = some (.dK kvs) ∧ ∀ od, Q (.ref d) (upd H1 d (.frz od (.dK kvs)))
theorem pe_freeze {X : Cx} {e : Expr} {td : TE} (he : PE X e td) : PE X e (tFreeze td) := by
  refine ⟨fun pins s σ H Q I h => ?_⟩
  refine thn (he.run pins s σ H _ I h) fun v s1 ⟨x, H1, I1, r1, d, kvs, e1, hd, q⟩ => ?_
  subst e1
  obtain ⟨od, I2⟩ := I1.lock hd trivial
  exact ⟨.ref d, _, I2, r1, q od⟩
/-! ### sorted -/
def SortedOf (ys xs : List Str) : Prop := PyProof.Rows.sortedS ys = true ∧ ys.Nodup ∧ ∀ k, k ∈ ys ↔ k ∈ xs
def tSortSet (K : PySem.W.Frag) (te : TE) : TE := fun σ H Q => te σ H fun x H1 => ∃ a xs, x = .ref a ∧ SqL K H1 a (xs.map V.str) ∧ xs.length ≤ 4000 ∧ ∀ ys p, SortedOf ys xs → H1 p = none → Q (.ref p) (upd H1 p (.lst (ys.map V.str)))
theorem pe_sortSet {X : Cx} {e : Expr} {te : TE} {p p2 q pos : Pos} (hc : X.calm = true) (hg : Gl X "sorted") (hm : X.mg "sorted" = none) (hg2 : Gl X "set") (hm2 : X.mg "set" = none) (he : PE X e te)
    (na : starEach [e] X.env = (false, eval e X.env) :: starEach [] X.env := by rfl) : PE X (.Call (.Name "sorted" p) [.Call (.Name "set" p2) [e] [] q] [] pos) (tSortSet X.K te) := by
  refine ⟨fun pins s σ H Q I h => ?_⟩
  refine PyProof.Rows.Call_ (ld_blt I hg hm (by decide +kernel : bootBuiltins "sorted" = some (.builtin "sorted")) ?_)
  refine PyProof.Rows.callWith_builtin1 (PyProof.Rows.args_cons ?_ rfl) rfl rfl
  refine PyProof.Rows.Call_ (ld_blt I hg2 hm2 PyProof.Rows.boot_set ?_)
  refine PyProof.Rows.callWith_type1 (PyProof.Rows.args_cons (thn (he.run pins s σ H _ I h) fun v s1 ⟨x, H1, I1, r1, q1⟩ => PyProof.Rows.args_nil ?_) na) na rfl
  obtain ⟨l, xs, rfl, hq, h1, q1⟩ := q1
  cases r1
  obtain ⟨its, r, pl, hz⟩ := I1.list hq
  refine call_setT (I1.ok.hd hc) pl.isList (by simpa using strsAre_of r) (by unfold scanBound; omega) fun h' tk hS hk => PyProof.Rows.args_nil ?_
  have I2 : Inv X pins σ H1 { s1 with heap := h', toks := tk } := I1.kept fun b o e => hk b o (Heap.lt_size e) e
  refine sorted_setT (s := { s1 with heap := h', toks := tk }) hS (I1.ok.hd hc) fun s' p out c ns k g o hp hg' hi hs hnd hmem hl => ?_
  have hlen : (ns.map V.str).length ≤ sizeLine := by
    have := metN_le xs xs.length
    rw [List.length_map, hl, sizeLine_eq]; omega
  have hn : H1 p = none := I2.hok.fresh hp
  refine ⟨.ref p, _, I2.call' (H' := upd H1 p (.lst (ns.map V.str))) (ch := []) o (Un.laid k hp hn) (I2.hok.laid k hp (show ObjOk X.prog X.w _ _ _ (.lst (ns.map V.str)) from ⟨hlen, out.toList, c, vals_of_strs hi, by rw [Array.toArray_toList]; exact hg'⟩)) (by rw [g]; exact I2.bare) (fun _ z => nomatch z), rfl, q1 ns p ⟨hs, hnd, fun k => ?_⟩ hn⟩
  rw [hmem k, List.any_eq_true]
  exact ⟨fun ⟨y, hy, ey⟩ => by rw [← eq_of_beq ey]; exact hy, fun hy => ⟨k, hy, by simp⟩⟩
def c_sortedD : List V → Hp → VK → Prop := fun xs H Q => ∃ (a : Addr) (kvs : List (Key × V)) (ks : List Str), xs = [.ref a] ∧ Rd H a (.dK kvs) ∧ kvs.map (·.1) = ks.map Sum.inr ∧ ∀ (ys : List Str) (p : Addr), ys.Perm ks → PyProof.Rows.sortedS ys = true → H p = none → Q (.ref p) (upd H p (.lst (ys.map V.str)))
theorem k_sortedD {X : Cx} (hcalm : X.calm = true) : CallR X (.builtin "sorted") c_sortedD := by
  intro pins s σ H xs us Q I r q
  obtain ⟨a, kvs, ks, ex, hd, hks, q⟩ := q
  subst ex
  obtain ⟨u, eu, rx⟩ := vals1 r
  subst eu
  cases rx
  obtain ⟨z, lo, vs, rel, dd⟩ := dk_rd I.hok hd
  obtain ⟨ep, hat⟩ := dd.dictAt
  have hkeys : vs.map (·.1) = ks.map Sum.inr := rel.keys.symm.trans hks
  have hl : vs.length = ks.length := by
    have e := congrArg List.length hkeys
    rw [List.length_map, List.length_map] at e
    exact e
  have h16 : vs.length ≤ sizeLine := by rw [← rel.length]; exact z
  refine Calls.call_function_entry PyProof.Rows.kind_sorted PyProof.Rows.plain_sorted PyProof.Rows.entry_sorted (PyProof.Rows.args_sorted1 _) ?_
  unfold Builtin.«sorted»
  refine wpAny_bind (m := checkCount "sorted" 1 1 _) (wpAny_pure ?_)
  refine wpAny_bind (PySem.W.kdu_collect (A := X.A.in1) (PySem.W.kdl_dict (knd := mixKind X.prog X.w) (kvs := vs) (ep := ep) lo) (I.ok.hd hcalm) hat h16 fun h' tk acc hk hacc => ?_)
  have hal : acc.toList.length = ks.length := by rw [Array.length_toList, hacc.1, hl]
  have hS : PyProof.Rows.StrsAre acc.toList ks := strs_at hal fun j v e => by
    obtain ⟨k, x, e1, e2⟩ := hacc.2 j v (by rw [← Array.getElem?_toList]; exact e)
    have e3 : (vs.map (·.1))[j]? = some k := by rw [List.getElem?_map, e1]; all_goals rfl
    rw [hkeys, List.getElem?_map] at e3
    cases e4 : ks[j]? with
    | none => rw [e4] at e3; cases e3
    | some y =>
      rw [e4] at e3
      have e5 : Sum.inr y = k := Option.some.inj e3
      subst e5
      obtain ⟨t, ev⟩ := Value.isStrOf_shape (x := y) (v := v) e2
      exact ⟨y, t, rfl, ev⟩
  have I1 : Inv X pins σ H { s with heap := h', toks := tk } := I.kept hk
  have hL : acc.toList.length ≤ sizeLine := by rw [hal, ← hl]; exact h16
  refine wpAny_bind (wpAny_newList ?_ hL)
  have hoL : (h'.push (PyProof.Rows.seqObj "list" acc.toList.toArray 0)).get? h'.objs.size = some (PyProof.Rows.seqObj "list" acc.toList.toArray 0) := Heap.get?_push_size _ rfl
  show wpAny _ _ _ _ _ { s with heap := h'.push (PyProof.Rows.seqObj "list" acc.toList.toArray 0), toks := tk }
  refine wpAny_bind (wpAny_holding (wpAny_call_entry PyProof.Rows.slot_list_sort ⟨_, hoL, rfl⟩ PyProof.Rows.entry_list_sort
    (PyProof.Rows.list_sort_treeKAny PyProof.Rows.strKind_oneLt (s := { s with heap := h'.push (PyProof.Rows.seqObj "list" acc.toList.toArray 0), toks := tk }) hoL hS.keysOf (fun v₁ v₂ rest e => PyProof.Rows.keyKind_strs (by rw [← e]; exact hS)) hL fun st' hp hs => ⟨_, rfl, ?_⟩)
    (PyProof.Rows.args_list_sort _)))
  obtain ⟨ys, g1, g2, g3⟩ := PyProof.Rows.sorted_out_str hS hp hs
  obtain ⟨e', he'⟩ := PyProof.Rows.sortedHeap_at (vs := acc.toList) (out := (PyProof.Rows.arrOf st').map (·.2)) hoL
  have hlen : (ys.map V.str).length ≤ sizeLine := by
    rw [List.length_map, g2.length_eq, ← hl]
    exact h16
  refine wpAny_pure ⟨_, rfl, .ref h'.objs.size, upd H h'.objs.size (.lst (ys.map V.str)), I1.laid (t' := tk) (fun b u e => ?_) (Nat.le_refl _)
    (show ObjOk X.prog X.w _ _ _ (.lst (ys.map V.str)) from ⟨hlen, ((PyProof.Rows.arrOf st').map (·.2)).toList, e', vals_of_strs g1, by rw [Array.toArray_toList]; exact he'⟩), rfl, q ys _ g2 g3 (I1.hok.fresh (Nat.le_refl _))⟩
  have hb : b < h'.objs.size := Heap.lt_size e
  rw [PyProof.Rows.sortedHeap_old (Nat.ne_of_lt hb) (by rw [PyProof.Rows.size_push']; exact Nat.lt_succ_of_lt hb)]
  exact Heap.get?_push_of_some _ e
def c_sortedI (K : PySem.W.Frag) : List V → Hp → VK → Prop := fun xs H Q => ∃ (a : Addr) (ns : List Int), xs = [.ref a] ∧ SqL K H a (ns.map V.int) ∧ ∀ (ns' : List Int) p, ns'.Perm ns → ns'.Pairwise (· ≤ ·) → H p = none → Q (.ref p) (upd H p (.lst (ns'.map V.int)))
theorem k_sortedI {X : Cx} : CallR X (.builtin "sorted") (c_sortedI X.K) := cr_sortedI
def c_dictP (K : PySem.W.Frag) : List V → Hp → VK → Prop := fun xs H Q => ∃ (a : Addr) (ps : List Addr) (kvs : List (Key × V)), xs = [.ref a] ∧ SqL K H a (ps.map V.ref) ∧ Paired (fun p kv => SqT K H p [kV kv.1, kv.2]) ps kvs ∧ ∀ p, H p = none → Q (.ref p) (upd H p (.dK (mergeK [] kvs)))
theorem k_dictP {X : Cx} (hc : X.calm = true) : CallR X (.type "dict") (c_dictP X.K) := call_dictP hc
/-! ### methods -/
def r_find : V → List V → Hp → VK → Prop := fun x xs H Q => ∃ a b : Str, x = .str a ∧ xs = [.str b] ∧ Q (.int (Txt.find a b)) H
theorem m_find {X : Cx} : MtR X "str.find" r_find := mt_find
def r_insert : V → List V → Hp → VK → Prop := fun x vs H Q => ∃ (l : Addr) (xs : List V) (i : Int) (y : V), x = .ref l ∧ vs = [.int i, y] ∧ H l = some (.lst xs) ∧ xs.length < sizeLine ∧ 0 ≤ i ∧ i < 2 ^ 63 ∧ Q .non (upd H l (.lst (xs.take i.toNat ++ [y] ++ xs.drop i.toNat)))
theorem m_insert {X : Cx} : MtR X "list.insert" r_insert := mt_insert
def r_count (K : PySem.W.Frag) : V → List V → Hp → VK → Prop := fun x vs H Q => ∃ (l : Addr) (bs : List Bool), x = .ref l ∧ vs = [.bl true] ∧ SqL K H l (bs.map V.bl) ∧ Q (.int (bs.count true : Nat)) H
theorem count_bls : ∀ bs : List Bool, (bs.map Value.bool).countP (eqU (.bl true)) = bs.count true
  | [] => rfl
  | b :: bs => by
    rw [List.map_cons, List.countP_cons, List.count_cons, count_bls bs]
    cases b <;> rfl
theorem m_count {X : Cx} : MtR X "list.count" (r_count X.K) := by
  intro pins s σ H x xs v us Q I rx rxs h
  obtain ⟨p, bs, rfl, rfl, hs, q⟩ := h
  cases rx
  obtain ⟨u, rfl, ru⟩ := rxs.one
  obtain ⟨its, rv, ⟨⟨cls, dd, data, sl⟩, n, ho, hc, hdn, hd⟩, hlen⟩ := I.list hs
  simp only at hc hd
  subst hc hd
  have hi := Vals.bls rv
  have fl : (bs.map V.bl).all flatV = true := by rw [List.all_map]; exact List.all_eq_true.mpr fun _ _ => rfl
  refine call_meets PySem.F.slot_list_count ⟨_, ho, rfl⟩ PySem.F.entry_list_count (PySem.F.args_list_count_2 _ _)
    (SeqAt.list_countAt p its.toArray n dd sl u (eqU (.bl true))) ⟨ho, fun y hy => mem_eqAt ru rfl rv fl y (by simpa using hy), ?_⟩
  have ec : its.toArray.toList.countP (eqU (.bl true)) = bs.count true := by
    rw [hi, List.toList_toArray]
    exact count_bls bs
  refine ⟨.int (bs.count true : Nat), H, I.tok _, ⟨s.toks, ?_⟩, q⟩
  show Value.int ((its.toArray.toList.countP (eqU (.bl true)) : Nat) : Int) s.toks = Value.int ((bs.count true : Nat) : Int) s.toks
  rw [ec]
def r_update : V → List V → Hp → VK → Prop := fun x vs H Q => ∃ (a b : Addr) (kvs more : List (Key × V)), x = .ref a ∧ vs = [.ref b] ∧ a ≠ b ∧ H a = some (.dK kvs) ∧ Rd H b (.dK more) ∧ kvs.length + more.length ≤ sizeLine ∧ Q .non (upd H a (.dK (mergeK kvs more)))
theorem m_update {X : Cx} : MtR X "dict.update" r_update := by
  intro pins s σ H x xs v us Q I rx rxs h
  obtain ⟨a, b, kvs, more, rfl, rfl, hab, ha, hb, hz, q⟩ := h
  cases rx
  obtain ⟨u, rfl, ru⟩ := rxs.one
  cases ru
  obtain ⟨z1, lo1, vs, rel, dd⟩ := dk_of I.hok ha
  obtain ⟨z2, lo2, ws, rel2, dd2⟩ := dk_rd I.hok hb
  refine call_meetsIn PySem.F.slot_dict_update dd.typeIs PySem.F.entry_dict_update (PySem.F.args_dict_update_2 _ _) (meets_dict_update (mixKind X.prog X.w) a b hab lo2)
    ⟨vs, ws, dd, dd2, by rw [← rel.length, ← rel2.length]; exact hz, fun h' d1 d2 sb => ?_⟩
  have hl : (mergeK kvs more).length ≤ sizeLine := Nat.le_trans (length_mergeK more kvs) hz
  have he : ∃ o, h'.get? a = some o := let ⟨o, _, _, ho, _⟩ := d1; ⟨o, ho⟩
  exact ⟨.non, _, d_write (t' := s.toks) I (by rw [ha]; trivial) sb he (dk_new hl lo1 (KV.merge rel2 rel) d1), rfl, q⟩
/-! ### a method called within a try -/
def tMethS (C : Addr) (m : Str) (sp : Sp) (E : St → XK) (ta : TE) (t : TA) : TE := fun σ H Q => ta σ H fun x H1 => ∃ a dx fs, x = .ref a ∧ H1 a = some (.ins C dx fs) ∧ fs.lookup m = none ∧ t σ H1 fun vs H2 => sp (x :: vs) H2 Q (E σ)
section
variable {X : Cx} {CX : CXT} {k : Nat} {C f : Addr} {fd : FuncData} {ps : List Str} {sp : Sp} {E : St → XK} {m : Str} {o e : Expr} {es : List Expr} {ta : TE} {t : TA} {apos pos : Pos}
theorem pe_methSS {pl : Sem Bool} (he : PE X o ta) (c : Cls X.K C) (hm : Meth X.K C m f) (F : FnOk X.prog X.w X.K X.mg X.base CX k f fd ps sp) (hr : Room k X.A) (hb : Binds X.K fd ps []) (hx : ∀ σ, PassesAt CX X σ (E σ)) (ha : PA X (e :: es) t)
    (hst : starEach (e :: es) X.env = (false, eval e X.env) :: starEach es X.env := by rfl) (hpl : (backTo pos (starEach es X.env)).any (·.1) = false := by rfl)
    (ht : eval (.Call (.Attribute o m apos) (e :: es) [] pos) X.env = (do
      let ov ← eval o X.env
      standAt apos.atName
      let (f, first) ← holding [ov] (getMethod ov m pl)
      callWith pos f first (backTo pos (starEach (e :: es) X.env)) (backToKw pos (keywordEach [] X.env))) := by rfl) :
    PE X (.Call (.Attribute o m apos) (e :: es) [] pos) (tMethS C m sp E ta t) := by
  refine ⟨fun pins s σ H Q I h => ?_⟩
  refine PySem.W.methodCall_KW (pl := pl) (thn (he.run pins s σ H _ I h) fun u s1 ⟨x, H1, I1, rx, a, dx, fs, ex, ea, l, q⟩ => ?_) ht
  subst ex
  obtain rfl : u = Value.ref a := rx
  refine getmeth_ok I1 ea c hm l ?_
  refine PySem.W.callWith_K (first := [.ref a]) (h₀ := X.base) I.ok.mod.kin hm.kp (thn (ha.run pos pins s1 σ H1 _ I1 q) fun us s2 ⟨vs, H2, I2, r, q2⟩ => ⟨I2.kIn, ?_⟩) hst hpl
  exact run_fnS (us := .ref a :: us) (vs := .ref a :: vs) F hr hb (hx σ) I2 (.cons rfl r) q2
end
/-! ### isinstance of a caught exception -/
def c_isE (K : PySem.W.Frag) (ec : Value) (ed : Option Addr) (a : Addr) : List V → Hp → VK → Prop := fun xs H Q => ∃ (D : Addr) (c : V) (cv : Value) (b : Bool), ec = .ref D ∧ ed = none ∧ ExcC K D ∧ xs = [.ref a, c] ∧ (∀ u, RelV c u → u = cv) ∧ PySem.W.kitOne K (.ref D) cv = some b ∧ Q (.bl b) H
theorem k_isE {X : Cx} {a : Addr} {oe : Obj} {ec : Value} {ed : Option Addr} {pn : List (Addr × Obj)} (hz : Zc ec ed oe) (hf : ∃ vs, oe.data = .fields vs) : CallR (X.suite a ((a, oe) :: pn)) (.builtin "isinstance") (c_isE X.K ec ed a) := by
  intro pins s σ H xs us Q I r h
  obtain ⟨D, c, cv, b, e1, e2, C, h⟩ := h
  subst e1 e2
  exact call_isE C hz hf pins s σ H xs us Q I r ⟨c, cv, b, h⟩
end Kr
namespace Kr
open PySem PySem.Spec L2
/-! ### plain data, and cells that change -/
inductive D where
  | non | bl (b : Bool) | int (i : Int) | str (x : Str) | lst (ds : List D) | tup (ds : List D) | scr (ns : List Int)
mutual
/-- in the part G of the heap, which stays, v is the data d -/
inductive Im (K : PySem.W.Frag) (G : Hp) : V → D → Prop
  | non : Im K G .non .non
  | bl (b : Bool) : Im K G (.bl b) (.bl b)
  | int (i : Int) : Im K G (.int i) (.int i)
  | str (x : Str) : Im K G (.str x) (.str x)
  | lst {a : Addr} {xs : List V} {ds : List D} : G a = some (.lst xs) → ImA K G xs ds → Im K G (.ref a) (.lst ds)
  | tup {a : Addr} {xs : List V} {ds : List D} : G a = some (.tup xs) → ImA K G xs ds → Im K G (.ref a) (.tup ds)
  | scr {a : Addr} {ns : List Int} : SqL K G a (ns.map V.int) → Im K G (.ref a) (.scr ns)
inductive ImA (K : PySem.W.Frag) (G : Hp) : List V → List D → Prop
  | nil : ImA K G [] []
  | cons {v : V} {vs : List V} {d : D} {ds : List D} : Im K G v d → ImA K G vs ds → ImA K G (v :: vs) (d :: ds)
end
mutual
theorem Im.ext {K : PySem.W.Frag} {G G' : Hp} (e : Ext G G') : ∀ {v : V} {d : D}, Im K G v d → Im K G' v d
  | _, _, .non => .non
  | _, _, .bl b => .bl b
  | _, _, .int i => .int i
  | _, _, .str x => .str x
  | _, _, .lst h a => .lst (e _ _ h) (ImA.ext e a)
  | _, _, .tup h a => .tup (e _ _ h) (ImA.ext e a)
  | _, _, .scr h => .scr (h.ext e)
theorem ImA.ext {K : PySem.W.Frag} {G G' : Hp} (e : Ext G G') : ∀ {v : List V} {d : List D}, ImA K G v d → ImA K G' v d
  | _, _, .nil => .nil
  | _, _, .cons h a => .cons (Im.ext e h) (ImA.ext e a)
end
/-- a value: data, a cell (or any address), a built-in class -/
inductive MV where
  | im (d : D) | mu (a : Addr) | ty (n : String)
def VR (K : PySem.W.Frag) (G : Hp) (v : V) : MV → Prop
  | .im d => Im K G v d
  | .mu a => v = .ref a
  | .ty n => v = .ty n
theorem VR.ext {K : PySem.W.Frag} {G G' : Hp} {v : V} (e : Ext G G') : ∀ {m : MV}, VR K G v m → VR K G' v m
  | .im _, h => Im.ext e h
  | .mu _, h => h
  | .ty _, h => h
abbrev VRs (K : PySem.W.Frag) (G : Hp) : List V → List MV → Prop := Paired (VR K G)
theorem Paired.ext' {α β : Type} {F G : α → β → Prop} {l : List α} {r : List β} (h : Paired F l r) (f : ∀ a b, F a b → G a b) : Paired G l r := L2.Paired.mapP h f
theorem VRs.ext {K : PySem.W.Frag} {G G' : Hp} {vs : List V} {ms : List MV} (e : Ext G G') (h : VRs K G vs ms) : VRs K G' vs ms := Paired.ext' h fun _ _ x => x.ext e
theorem VRs.ims {K : PySem.W.Frag} {G : Hp} : ∀ {vs : List V} {ds : List D}, VRs K G vs (ds.map .im) → ImA K G vs ds
  | _, [], .nil => .nil
  | _, _ :: _, .cons h t => .cons h (VRs.ims t)
theorem ImA.vrs {K : PySem.W.Frag} {G : Hp} : ∀ {vs : List V} {ds : List D}, ImA K G vs ds → VRs K G vs (ds.map .im)
  | _, _, .nil => .nil
  | _, _, .cons h t => .cons h (ImA.vrs t)
theorem ImA.length {K : PySem.W.Frag} {G : Hp} {vs : List V} {ds : List D} (h : ImA K G vs ds) : vs.length = ds.length := by
  have := Paired.length h.vrs
  simpa using this
theorem Paired.get {α β : Type} {F : α → β → Prop} : ∀ {l : List α} {r : List β}, Paired F l r → ∀ {i : Nat} {b : β}, r[i]? = some b → ∃ a, l[i]? = some a ∧ F a b
  | _, _, .nil, i, b, h => by simp at h
  | _, _, .cons f t, 0, b, h => by simp at h; subst h; exact ⟨_, rfl, f⟩
  | _, _, .cons f t, i + 1, b, h => by
    obtain ⟨a, h1, h2⟩ := Paired.get t (i := i) (by simpa using h)
    exact ⟨a, by simpa using h1, h2⟩
theorem Paired.getL {α β : Type} {F : α → β → Prop} : ∀ {l : List α} {r : List β}, Paired F l r → ∀ {i : Nat} {a : α}, l[i]? = some a → ∃ b, r[i]? = some b ∧ F a b
  | _, _, .nil, i, b, h => by simp at h
  | _, _, .cons f t, 0, b, h => by simp at h; subst h; exact ⟨_, rfl, f⟩
  | _, _, .cons f t, i + 1, b, h => by
    obtain ⟨a, h1, h2⟩ := Paired.getL t (i := i) (by simpa using h)
    exact ⟨a, by simpa using h1, h2⟩
theorem Paired.app {α β : Type} {F : α → β → Prop} : ∀ {l l' : List α} {r r' : List β}, Paired F l r → Paired F l' r' → Paired F (l ++ l') (r ++ r')
  | _, _, _, _, .nil, h => h
  | _, _, _, _, .cons f t, h => .cons f (Paired.app t h)
theorem Paired.takeP {α β : Type} {F : α → β → Prop} : ∀ {l : List α} {r : List β} (n : Nat), Paired F l r → Paired F (l.take n) (r.take n)
  | _, _, 0, _ => .nil
  | _, _, _ + 1, .nil => .nil
  | _, _, n + 1, .cons f t => .cons f (Paired.takeP n t)
theorem Paired.dropP {α β : Type} {F : α → β → Prop} : ∀ {l : List α} {r : List β} (n : Nat), Paired F l r → Paired F (l.drop n) (r.drop n)
  | _, _, 0, h => h
  | _, _, _ + 1, .nil => .nil
  | _, _, n + 1, .cons _ t => Paired.dropP n t
theorem Paired.setP {α β : Type} {F : α → β → Prop} {a : α} {b : β} (f : F a b) : ∀ {l : List α} {r : List β} (i : Nat), Paired F l r → Paired F (l.set i a) (r.set i b)
  | _, _, _, .nil => .nil
  | _, _, 0, .cons _ t => .cons f t
  | _, _, i + 1, .cons g t => .cons g (Paired.setP f i t)
theorem Paired.rev {α β : Type} {F : α → β → Prop} {l : List α} {r : List β} (h : Paired F l r) : Paired F l.reverse r.reverse := by
  induction h with
  | nil => exact .nil
  | cons f _ ih => rw [List.reverse_cons, List.reverse_cons]; exact Paired.app ih (.cons f .nil)
/-- what a cell holds -/
inductive MO where
  | lst (xs : List MV) | tup (xs : List MV) | dct (kvs : List (Key × MV))
  /-- a dict while it is walked -/
  | lck (od : Obj) (u : HO) (kvs : List (Key × MV))
  | ins (C dx : Addr) (fs : List (Str × MV))
  /-- an object that stands with others of its own, by what is told of them -/
  | abs (C : Addr) (nm : List Str) (p : PySem.W.Frag → Addr → Hp → Hp → Prop)
abbrev MS := Addr → Option MO
def mup (S : MS) (a : Addr) (o : MO) : MS := fun b => if b = a then some o else S b
def mer (S : MS) (a : Addr) : MS := fun b => if b = a then none else S b
theorem mup_same {S : MS} {a : Addr} {o : MO} : mup S a o a = some o := by simp [mup]
theorem mup_ne {S : MS} {a b : Addr} {o : MO} (h : b ≠ a) : mup S a o b = S b := by simp [mup, h]
theorem mup_mup {S : MS} {a : Addr} {o u : MO} : mup (mup S a o) a u = mup S a u := by funext b; simp only [mup]; split <;> rfl
theorem mer_mup {S : MS} {a : Addr} {o : MO} (h : S a = none) : mer (mup S a o) a = S := by funext b; simp only [mup, mer]; split <;> simp_all
theorem mer_ne {S : MS} {a b : Addr} (h : b ≠ a) : mer S a b = S b := by simp [mer, h]
def Sub (S S' : MS) : Prop := ∀ a o, S a = some o → S' a = some o
theorem Sub.rfl' {S : MS} : Sub S S := fun _ _ h => h
theorem Sub.trans {S S1 S2 : MS} (h : Sub S S1) (g : Sub S1 S2) : Sub S S2 := fun a o x => g a o (h a o x)
theorem Sub.mup {S S' : MS} {p : Addr} {o : MO} (h : Sub S S') (e : S p = none) : Sub S (mup S' p o) := fun a u x => by
  rw [mup_ne (by rintro rfl; rw [e] at x; cases x)]; exact h a u x
theorem mup_comm {S : MS} {a b : Addr} {o u : MO} (h : a ≠ b) : mup (mup S a o) b u = mup (mup S b u) a o := by
  funext c; simp only [mup]; by_cases h1 : c = a <;> by_cases h2 : c = b <;> simp_all
abbrev KVR (K : PySem.W.Frag) (G : Hp) : List (Key × V) → List (Key × MV) → Prop := Paired fun p q => p.1 = q.1 ∧ VR K G p.2 q.2
abbrev FsR (K : PySem.W.Frag) (G : Hp) : List (Str × V) → List (Str × MV) → Prop := Paired fun p q => p.1 = q.1 ∧ VR K G p.2 q.2
def FR (K : PySem.W.Frag) (G : Hp) : MO → HO → Prop
  | .lst ms, o => ∃ vs, o = .lst vs ∧ VRs K G vs ms
  | .tup ms, o => ∃ vs, o = .tup vs ∧ VRs K G vs ms
  | .dct kvs, o => ∃ us, o = .dK us ∧ KVR K G us kvs
  | .lck od u kvs, o => o = .frz od u ∧ ∃ us, u = .dK us ∧ KVR K G us kvs
  | .ins C dx fs, o => ∃ us, o = .ins C dx us ∧ FsR K G us fs
  | .abs _ _ _, _ => False
theorem FR.ext {K : PySem.W.Frag} {G G' : Hp} (e : Ext G G') : ∀ {o : MO} {u : HO}, FR K G o u → FR K G' o u
  | .lst _, _, ⟨vs, h, r⟩ => ⟨vs, h, r.ext e⟩
  | .tup _, _, ⟨vs, h, r⟩ => ⟨vs, h, r.ext e⟩
  | .dct _, _, ⟨vs, h, r⟩ => ⟨vs, h, Paired.ext' r fun _ _ x => ⟨x.1, x.2.ext e⟩⟩
  | .lck _ _ _, _, ⟨h, vs, h2, r⟩ => ⟨h, vs, h2, Paired.ext' r fun _ _ x => ⟨x.1, x.2.ext e⟩⟩
  | .ins _ _ _, _, ⟨vs, h, r⟩ => ⟨vs, h, Paired.ext' r fun _ _ x => ⟨x.1, x.2.ext e⟩⟩
def Flat : MO → Prop
  | .abs _ _ _ => False
  | _ => True
def Cel (K : PySem.W.Frag) (G : Hp) (own : Addr → Option Addr) (H : Hp) (a : Addr) (o : MO) : Prop :=
  (∃ u, H a = some u ∧ FR K G o u) ∨ ∃ C nm p, o = .abs C nm p ∧ ∃ h G0, Ext G0 G ∧ p K a G0 h ∧ (∀ b u, h b = some u → H b = some u ∧ own b = some a) ∧ ∃ dx fs, H a = some (.ins C dx fs) ∧ fs.map (·.1) = nm
theorem Cel.mono {K : PySem.W.Frag} {G G' : Hp} {own own' : Addr → Option Addr} {H H' : Hp} {a : Addr} {o : MO} (h : Cel K G own H a o) (e : Ext G G') (ha : own a = some a)
    (hH : ∀ b u, own b = some a → H b = some u → H' b = some u) (hw : ∀ b, own b = some a → own' b = some a) : Cel K G' own' H' a o := by
  rcases h with ⟨u, h1, h2⟩ | ⟨C, nm, p, rfl, h, G0, h1, h2, h3, dx, fs, h4, h5⟩
  · exact .inl ⟨u, hH a u ha h1, h2.ext e⟩
  · exact .inr ⟨C, nm, p, rfl, h, G0, h1.trans e, h2, fun b u q => ⟨hH b u (h3 b u q).2 (h3 b u q).1, hw b (h3 b u q).2⟩, dx, fs, hH a _ ha h4, h5⟩
structure RepI (K : PySem.W.Frag) (G : Hp) (own : Addr → Option Addr) (H : Hp) (S : MS) : Prop where
  dom : ∀ b a, own b = some a → G b = none ∧ H b ≠ none
  cel : ∀ a o, S a = some o → own a = some a ∧ Cel K G own H a o
structure Rep (K : PySem.W.Frag) (G : Hp) (own : Addr → Option Addr) (H : Hp) (S : MS) : Prop where
  e : Ext G H
  r : RepI K G own H S
section
variable {K : PySem.W.Frag} {G : Hp} {own : Addr → Option Addr} {H : Hp} {S : MS} {a p : Addr} {o : MO} {u : HO}
theorem Rep.look (R : Rep K G own H S) (h : S a = some o) (f : Flat o) : ∃ u, H a = some u ∧ FR K G o u := by
  rcases (R.r.cel a o h).2 with q | ⟨C, nm, p, rfl, _⟩
  · exact q
  · exact f.elim
theorem Rep.free (R : Rep K G own H S) (h : H p = none) : S p = none := by
  cases e : S p with
  | none => rfl
  | some o => exact absurd h (R.r.dom p p (R.r.cel p o e).1).2
theorem Rep.gfree (R : Rep K G own H S) (h : H p = none) : G p = none := by
  cases e : G p with
  | none => rfl
  | some o => rw [R.e _ _ e] at h; cases h
theorem Rep.ofree (R : Rep K G own H S) (h : H p = none) : own p = none := by
  cases e : own p with
  | none => rfl
  | some o => exact absurd h (R.r.dom p o e).2
theorem Rep.sub {S' : MS} (R : Rep K G own H S) (h : Sub S' S) : Rep K G own H S' := ⟨R.e, R.r.dom, fun a o q => R.r.cel a o (h a o q)⟩
/-- a thing is laid that nobody asks of -/
theorem Rep.junk (R : Rep K G own H S) (h : H p = none) : Rep K G own (upd H p u) S := by
  have hp := R.ofree h
  have k : ∀ b c x, own b = some c → H b = some x → upd H p u b = some x := fun b c x q e => by rw [upd_ne (by rintro rfl; rw [hp] at q; cases q)]; exact e
  refine ⟨R.e.upd' h, fun b a q => ⟨(R.r.dom b a q).1, fun z => ?_⟩, fun a o q => ⟨(R.r.cel a o q).1, (R.r.cel a o q).2.mono Ext.rfl' (R.r.cel a o q).1 (fun b u => k b a u) fun _ z => z⟩⟩
  have := (R.r.dom b a q).2
  cases e : H b with
  | none => exact this e
  | some x => rw [k b a x q e] at z; cases z
theorem Rep.cell (R : Rep K G own H S) (h : H p = none) (f : FR K G o u) : Rep K G (fun b => if b = p then some p else own b) (upd H p u) (mup S p o) := by
  have hp := R.ofree h
  have J := R.junk (u := u) h
  have nb : ∀ b c, own b = some c → b ≠ p := fun b c q z => by rw [z, hp] at q; cases q
  refine ⟨J.e, fun b a q => ?_, fun a o' q => ?_⟩
  · by_cases e : b = p
    · subst e; exact ⟨R.gfree h, by rw [upd_same]; simp⟩
    · simp [e] at q
      exact J.r.dom b a q
  · by_cases e : a = p
    · subst e
      rw [mup_same] at q; cases q
      exact ⟨by simp, .inl ⟨u, upd_same, f⟩⟩
    · rw [mup_ne e] at q
      have c := J.r.cel a o' q
      exact ⟨by simp [e, c.1], c.2.mono Ext.rfl' c.1 (fun _ _ _ z => z) fun b z => by simp [nb b a z, z]⟩
theorem Rep.laid (R : Rep K G own H S) (h : H p = none) : Ext G (upd G p u) ∧ Rep K (upd G p u) own (upd H p u) S := by
  have hg := R.gfree h
  have J := R.junk (u := u) h
  have e := Ext.upd (o := u) hg
  refine ⟨e, fun b x q => ?_, fun b a q => ⟨?_, (J.r.dom b a q).2⟩, fun a o q => ⟨(J.r.cel a o q).1, (J.r.cel a o q).2.mono e (J.r.cel a o q).1 (fun _ _ _ z => z) fun _ z => z⟩⟩
  · by_cases z : b = p
    · subst z; rw [upd_same] at q ⊢; exact q
    · rw [upd_ne z] at q ⊢; exact R.e _ _ q
  · rw [upd_ne (by rintro rfl; rw [R.ofree h] at q; cases q)]; exact (R.r.dom b a q).1
theorem Rep.write {o' : MO} (R : Rep K G own H S) (h : S a = some o) (f : FR K G o' u) : Rep K G own (upd H a u) (mup S a o') := by
  have ha := (R.r.cel a o h).1
  have hg := (R.r.dom a a ha).1
  refine ⟨fun b x q => ?_, fun b c q => ⟨(R.r.dom b c q).1, ?_⟩, fun c o2 q => ?_⟩
  · rw [upd_ne (by rintro rfl; rw [hg] at q; cases q)]; exact R.e _ _ q
  · by_cases e : b = a
    · subst e; rw [upd_same]; simp
    · rw [upd_ne e]; exact (R.r.dom b c q).2
  · by_cases e : c = a
    · subst e
      rw [mup_same] at q; cases q
      exact ⟨ha, .inl ⟨u, upd_same, f⟩⟩
    · rw [mup_ne e] at q
      have c2 := R.r.cel c o2 q
      refine ⟨c2.1, c2.2.mono Ext.rfl' c2.1 (fun b x z1 z2 => ?_) fun _ z => z⟩
      rw [upd_ne]; exact z2
      rintro rfl
      rw [ha] at z1; cases z1; exact e rfl
theorem Rep.freezeL {ds : List D} (R : Rep K G own H S) (h : S a = some (.lst (ds.map .im))) : ∃ G' own', Ext G G' ∧ Rep K G' own' H (mer S a) ∧ Im K G' (.ref a) (.lst ds) := by
  have ha := (R.r.cel a _ h).1
  have hg := (R.r.dom a a ha).1
  obtain ⟨u, hu, vs, rfl, rv⟩ := R.look h trivial
  have e := Ext.upd (o := .lst vs) hg
  refine ⟨upd G a (.lst vs), fun b => if b = a then none else own b, e, ⟨fun b x q => ?_, fun b c q => ?_, fun c o2 q => ?_⟩, .lst upd_same (rv.ims.ext e)⟩
  · by_cases z : b = a
    · subst z; rw [upd_same] at q; cases q; exact hu
    · rw [upd_ne z] at q; exact R.e _ _ q
  · by_cases z : b = a
    · simp [z] at q
    · simp [z] at q
      rw [upd_ne z]; exact R.r.dom b c q
  · by_cases z : c = a
    · simp [mer, z] at q
    · simp [mer, z] at q
      have c2 := R.r.cel c o2 q
      refine ⟨by simp [z, c2.1], c2.2.mono e c2.1 (fun _ _ _ z => z) fun b y => ?_⟩
      have : b ≠ a := by rintro rfl; rw [ha] at y; cases y; exact z rfl
      simp [this, y]
theorem Rep.freezeT {ds : List D} (R : Rep K G own H S) (h : S a = some (.tup (ds.map .im))) : ∃ G' own', Ext G G' ∧ Rep K G' own' H (mer S a) ∧ Im K G' (.ref a) (.tup ds) := by
  have ha := (R.r.cel a _ h).1
  have hg := (R.r.dom a a ha).1
  obtain ⟨u, hu, vs, rfl, rv⟩ := R.look h trivial
  have e := Ext.upd (o := .tup vs) hg
  refine ⟨upd G a (.tup vs), fun b => if b = a then none else own b, e, ⟨fun b x q => ?_, fun b c q => ?_, fun c o2 q => ?_⟩, .tup upd_same (rv.ims.ext e)⟩
  · by_cases z : b = a
    · subst z; rw [upd_same] at q; cases q; exact hu
    · rw [upd_ne z] at q; exact R.e _ _ q
  · by_cases z : b = a
    · simp [z] at q
    · simp [z] at q
      rw [upd_ne z]; exact R.r.dom b c q
  · by_cases z : c = a
    · simp [mer, z] at q
    · simp [mer, z] at q
      have c2 := R.r.cel c o2 q
      refine ⟨by simp [z, c2.1], c2.2.mono e c2.1 (fun _ _ _ z => z) fun b y => ?_⟩
      have : b ≠ a := by rintro rfl; rw [ha] at y; cases y; exact z rfl
      simp [this, y]
end
/-! ### an object with others of its own: opened, closed -/
/-- what is told of an object and its own others, by a state -/
def mkP (Φ : Addr → MS → Prop) : PySem.W.Frag → Addr → Hp → Hp → Prop := fun K s G h => ∃ own S, RepI K G own h S ∧ Φ s S
def absO (C : Addr) (nm : List Str) (Φ : Addr → MS → Prop) : MO := .abs C nm (mkP Φ)
/-- S, and where S1 tells something, that -/
def ov (S S1 : MS) : MS := fun a => match S1 a with | some o => some o | none => S a
theorem ov_up {S S1 : MS} {a : Addr} {o : MO} : mup (ov S S1) a o = ov S (mup S1 a o) := by
  funext b; simp only [mup, ov]; by_cases h : b = a <;> simp [h]
theorem ov_in {S S1 : MS} {a : Addr} {o : MO} (h : S1 a = some o) : ov S S1 a = some o := by simp [ov, h]
theorem ov_none {S S1 : MS} {a : Addr} (h : ov S S1 a = none) : S1 a = none ∧ S a = none := by
  unfold ov at h; cases e : S1 a with
  | none => rw [e] at h; exact ⟨rfl, h⟩
  | some o => rw [e] at h; cases h
/-- the two tell of unlike addresses -/
def Dj (S S1 : MS) : Prop := ∀ a o, S1 a = some o → S a = none
theorem Dj.up {S S1 : MS} {a : Addr} {o : MO} (h : Dj S S1) (e : S a = none) : Dj S (mup S1 a o) := fun b u q => by
  by_cases z : b = a
  · rw [z]; exact e
  · rw [mup_ne z] at q; exact h b u q
theorem Rep.opened {K : PySem.W.Frag} {G : Hp} {own : Addr → Option Addr} {H : Hp} {S : MS} {s : Addr} {C : Addr} {nm : List Str} {Φ : Addr → MS → Prop} (R : Rep K G own H S) (h : S s = some (absO C nm Φ)) :
    ∃ own' S1, Φ s S1 ∧ Dj (mer S s) S1 ∧ Rep K G own' H (ov (mer S s) S1) := by
  obtain ⟨hs, c⟩ := R.r.cel s _ h
  rcases c with ⟨u, _, f⟩ | ⟨C', nm', p, ep, hh, G0, e0, hp, hb, dx, fs, _, _⟩
  · exact f.elim
  unfold absO at ep
  cases ep
  obtain ⟨own1, S1, R1, hΦ⟩ := hp
  have in1 : ∀ b a, own1 b = some a → own b = some s := fun b a q => by
    have := (R1.dom b a q).2
    cases e : hh b with
    | none => exact absurd e this
    | some u => exact (hb b u e).2
  have dj : Dj (mer S s) S1 := fun a o q => by
    by_cases z : a = s
    · simp [mer, z]
    · rw [mer_ne z]
      cases e : S a with
      | none => rfl
      | some o2 =>
        have h1 := (R.r.cel a o2 e).1
        have h2 := in1 a a (R1.cel a o q).1
        rw [h1] at h2; cases h2; exact absurd rfl z
  refine ⟨fun b => match own1 b with | some a => some a | none => if own b = some s then none else own b, S1, hΦ, dj, R.e, fun b a q => ?_, fun a o q => ?_⟩
  · cases e : own1 b with
    | some c => exact R.r.dom b s (in1 b c e)
    | none =>
      simp only [e] at q
      split at q
      · cases q
      · exact R.r.dom b a q
  · cases e : S1 a with
    | some o2 =>
      have : o = o2 := by unfold ov at q; rw [e] at q; cases q; rfl
      subst this
      obtain ⟨h1, h2⟩ := R1.cel a o e
      refine ⟨by simp [h1], h2.mono e0 h1 (fun b u _ z => (hb b u z).1) fun b z => by simp [z]⟩
    | none =>
      have q' : mer S s a = some o := by unfold ov at q; rw [e] at q; exact q
      have ne : a ≠ s := by rintro rfl; simp [mer] at q'
      rw [mer_ne ne] at q'
      obtain ⟨h1, h2⟩ := R.r.cel a o q'
      have k : ∀ b, own b = some a → (match own1 b with | some a => some a | none => if own b = some s then none else own b) = some a := fun b z => by
        cases e1 : own1 b with
        | some c => have := in1 b c e1; rw [z] at this; cases this; exact absurd rfl ne
        | none => simp [z, ne]
      exact ⟨k a h1, h2.mono Ext.rfl' h1 (fun _ _ _ z => z) k⟩
theorem Rep.closed {K : PySem.W.Frag} {G : Hp} {own : Addr → Option Addr} {H : Hp} {S S1 : MS} {s : Addr} {C dx : Addr} {fs : List (Str × MV)} {nm : List Str} {Φ : Addr → MS → Prop} (R : Rep K G own H (ov (mer S s) S1)) (dj : Dj (mer S s) S1) (hΦ : Φ s S1)
    (h1 : S1 s = some (.ins C dx fs)) (hn : fs.map (·.1) = nm) : ∃ own', Rep K G own' H (mup S s (absO C nm Φ)) := by
  obtain ⟨u, hu, us, rfl, ru⟩ := R.look (ov_in h1) trivial
  classical
  let F : Addr → Prop := fun b => ∃ a o, own b = some a ∧ S1 a = some o
  have hs : own s = some s := (R.r.cel s _ (ov_in h1)).1
  have Fs : F s := ⟨s, _, hs, h1⟩
  have nF : ∀ a o, mer S s a = some o → ∀ b, own b = some a → ¬ F b := fun a o q b z ⟨c, o2, z2, q2⟩ => by
    rw [z] at z2; cases z2
    have := dj a o2 q2
    rw [q] at this; cases this
  refine ⟨fun b => if F b then some s else own b, R.e, fun b a q => ?_, fun a o q => ?_⟩
  · by_cases f : F b
    · obtain ⟨c, _, z, _⟩ := f
      exact R.r.dom b c z
    · simp [f] at q; exact R.r.dom b a q
  · by_cases ne : a = s
    · subst ne
      rw [mup_same] at q; cases q
      refine ⟨by simp [Fs], .inr ⟨C, nm, _, rfl, fun b => if F b then H b else none, G, Ext.rfl', ⟨fun b => if F b then own b else none, S1, ⟨fun b a q => ?_, fun a o q => ?_⟩, hΦ⟩, fun b x q => ?_, dx, us, hu, ?_⟩⟩
      · by_cases f : F b
        · simp [f] at q; simpa [f] using R.r.dom b a q
        · simp [f] at q
      · obtain ⟨h2, h3⟩ := R.r.cel a o (ov_in q)
        have fb : ∀ b, own b = some a → F b := fun b z => ⟨a, o, z, q⟩
        exact ⟨by simp [fb a h2, h2], h3.mono Ext.rfl' h2 (fun b x z1 z2 => by simp [fb b z1, z2]) fun b z => by simp [fb b z, z]⟩
      · by_cases f : F b
        · simp [f] at q; exact ⟨q, by simp [f]⟩
        · simp [f] at q
      · rw [← hn]
        have : ∀ {l : List (Str × V)} {r : List (Str × MV)}, FsR K G l r → l.map (·.1) = r.map (·.1) := by
          intro l r z
          induction z with
          | nil => rfl
          | cons f _ ih => simp only [List.map_cons, ih, f.1]
        exact this ru
    · rw [mup_ne ne] at q
      have q' : mer S s a = some o := by rw [mer_ne ne]; exact q
      have q2 : ov (mer S s) S1 a = some o := by
        unfold ov
        cases e : S1 a with
        | none => exact q'
        | some o2 => have := dj a o2 e; rw [q'] at this; cases this
      obtain ⟨h2, h3⟩ := R.r.cel a o q2
      have nf := nF a o q'
      exact ⟨by simp [nf a h2, h2], h3.mono Ext.rfl' h2 (fun _ _ _ z => z) fun b z => by simp [nf b z, z]⟩
end Kr
namespace Kr
open PySem PySem.Spec L2
/-! ### judgements over data and cells -/
abbrev Env := List (Option MV)
theorem fr_lst {K : PySem.W.Frag} {G : Hp} {vs : List V} {ms : List MV} (h : VRs K G vs ms) : FR K G (.lst ms) (.lst vs) := ⟨vs, rfl, h⟩
theorem fr_tup {K : PySem.W.Frag} {G : Hp} {vs : List V} {ms : List MV} (h : VRs K G vs ms) : FR K G (.tup ms) (.tup vs) := ⟨vs, rfl, h⟩
theorem fr_dct {K : PySem.W.Frag} {G : Hp} {vs : List (Key × V)} {ms : List (Key × MV)} (h : KVR K G vs ms) : FR K G (.dct ms) (.dK vs) := ⟨vs, rfl, h⟩
theorem vr_int {K : PySem.W.Frag} {G : Hp} (i : Int) : VR K G (.int i) (.im (.int i)) := Im.int i
theorem vr_bl {K : PySem.W.Frag} {G : Hp} (i : Bool) : VR K G (.bl i) (.im (.bl i)) := Im.bl i
theorem vr_str {K : PySem.W.Frag} {G : Hp} (i : Str) : VR K G (.str i) (.im (.str i)) := Im.str i
theorem vr_non {K : PySem.W.Frag} {G : Hp} : VR K G .non (.im .non) := Im.non
theorem vr_mu {K : PySem.W.Frag} {G : Hp} (a : Addr) : VR K G (.ref a) (.mu a) := rfl
theorem vr_ty {K : PySem.W.Frag} {G : Hp} (n : String) : VR K G (.ty n) (.ty n) := rfl
def OR (K : PySem.W.Frag) (G : Hp) (o : Option V) : Option MV → Prop
  | some m => ∃ v, o = some v ∧ VR K G v m
  | none => True
abbrev ER (K : PySem.W.Frag) (G : Hp) : St → Env → Prop := Paired (OR K G)
theorem OR.ext {K : PySem.W.Frag} {G G' : Hp} {o : Option V} (e : Ext G G') : ∀ {m : Option MV}, OR K G o m → OR K G' o m
  | some _, ⟨v, h, r⟩ => ⟨v, h, r.ext e⟩
  | none, _ => trivial
theorem ER.ext {K : PySem.W.Frag} {G G' : Hp} {σ : St} {E : Env} (e : Ext G G') (h : ER K G σ E) : ER K G' σ E := Paired.ext' h fun _ _ x => OR.ext e x
theorem ER.set {K : PySem.W.Frag} {G : Hp} {σ : St} {E : Env} {v : V} {m : MV} (i : Nat) (h : ER K G σ E) (r : VR K G v m) : ER K G (σ.set i (some v)) (E.set i (some m)) := Paired.setP ⟨v, rfl, r⟩ i h
theorem ER.unset {K : PySem.W.Frag} {G : Hp} {σ : St} {E : Env} {o : Option V} (i : Nat) (h : ER K G σ E) : ER K G (σ.set i o) (E.set i none) := Paired.setP trivial i h
structure ME where
  nx : Env → MS → Prop
  rt : MV → MS → Prop
  bk : Env → MS → Prop := fun _ _ => False
  ct : Env → MS → Prop := fun _ _ => False
def CV (K : PySem.W.Frag) (G : Hp) (Q : MV → MS → Prop) (R : VK) : Prop := ∀ v H' G' own' m S', Ext G G' → Rep K G' own' H' S' → VR K G' v m → Q m S' → R v H'
def CL (K : PySem.W.Frag) (G : Hp) (Q : List MV → MS → Prop) (R : List V → Hp → Prop) : Prop := ∀ v H' G' own' m S', Ext G G' → Rep K G' own' H' S' → VRs K G' v m → Q m S' → R v H'
def CP {α : Type} (K : PySem.W.Frag) (G : Hp) (Q : α → MS → Prop) (R : α → Hp → Prop) : Prop := ∀ b H' G' own' S', Ext G G' → Rep K G' own' H' S' → Q b S' → R b H'
def CS (K : PySem.W.Frag) (G : Hp) (Q : Env → MS → Prop) (R : St → Hp → Prop) : Prop := ∀ σ' H' G' own' E' S', Ext G G' → Rep K G' own' H' S' → ER K G' σ' E' → Q E' S' → R σ' H'
def CX (K : PySem.W.Frag) (G : Hp) (X : Value → MS → Prop) (R : XK) : Prop := ∀ c H' G' own' S', Ext G G' → Rep K G' own' H' S' → X c S' → R c none H'
def CW (K : PySem.W.Frag) (G : Hp) (X : Value → Env → MS → Prop) (R : WX) : Prop := ∀ c σ' H' G' own' E' S', Ext G G' → Rep K G' own' H' S' → ER K G' σ' E' → X c E' S' → R c none σ' H'
section
variable {K : PySem.W.Frag} {G G' : Hp} (e : Ext G G')
include e
theorem CV.ext {Q : MV → MS → Prop} {R : VK} (h : CV K G Q R) : CV K G' Q R := fun v H' G2 own' m S' e2 => h v H' G2 own' m S' (e.trans e2)
theorem CL.ext {Q : List MV → MS → Prop} {R : List V → Hp → Prop} (h : CL K G Q R) : CL K G' Q R := fun v H' G2 own' m S' e2 => h v H' G2 own' m S' (e.trans e2)
theorem CP.ext {α : Type} {Q : α → MS → Prop} {R : α → Hp → Prop} (h : CP K G Q R) : CP K G' Q R := fun b H' G2 own' S' e2 => h b H' G2 own' S' (e.trans e2)
theorem CS.ext {Q : Env → MS → Prop} {R : St → Hp → Prop} (h : CS K G Q R) : CS K G' Q R := fun σ H' G2 own' E' S' e2 => h σ H' G2 own' E' S' (e.trans e2)
theorem CX.ext {X : Value → MS → Prop} {R : XK} (h : CX K G X R) : CX K G' X R := fun c H' G2 own' S' e2 => h c H' G2 own' S' (e.trans e2)
theorem CW.ext {X : Value → Env → MS → Prop} {R : WX} (h : CW K G X R) : CW K G' X R := fun c σ H' G2 own' E' S' e2 => h c σ H' G2 own' E' S' (e.trans e2)
end
def EvE (K : PySem.W.Frag) (G0 : Hp) (te : TE) (E : Env) (S : MS) (Q : MV → MS → Prop) : Prop := ∀ G own H σ R, Ext G0 G → Rep K G own H S → ER K G σ E → CV K G Q R → te σ H R
def EvA (K : PySem.W.Frag) (G0 : Hp) (te : TA) (E : Env) (S : MS) (Q : List MV → MS → Prop) : Prop := ∀ G own H σ R, Ext G0 G → Rep K G own H S → ER K G σ E → CL K G Q R → te σ H R
def EvT (K : PySem.W.Frag) (G0 : Hp) (te : TT) (E : Env) (S : MS) (Q : Bool → MS → Prop) : Prop := ∀ G own H σ R, Ext G0 G → Rep K G own H S → ER K G σ E → CP K G Q R → te σ H R
def EvO (K : PySem.W.Frag) (G0 : Hp) (te : TO) (E : Env) (S : MS) (Q : Option Int → MS → Prop) : Prop := ∀ G own H σ R, Ext G0 G → Rep K G own H S → ER K G σ E → CP K G Q R → te σ H R
def EvR (K : PySem.W.Frag) (G0 : Hp) (r : R2) (x y : MV) (S : MS) (Q : MV → MS → Prop) : Prop := ∀ G own H v u R, Ext G0 G → Rep K G own H S → VR K G v x → VR K G u y → CV K G Q R → r v u H R
def EvU (K : PySem.W.Frag) (G0 : Hp) (r : V → Hp → VK → Prop) (x : MV) (S : MS) (Q : MV → MS → Prop) : Prop := ∀ G own H v R, Ext G0 G → Rep K G own H S → VR K G v x → CV K G Q R → r v H R
def EvC (K : PySem.W.Frag) (G0 : Hp) (r : List V → Hp → VK → Prop) (xs : List MV) (S : MS) (Q : MV → MS → Prop) : Prop := ∀ G own H v R, Ext G0 G → Rep K G own H S → VRs K G v xs → CV K G Q R → r v H R
def EvM (K : PySem.W.Frag) (G0 : Hp) (T : String) (r : V → List V → Hp → VK → Prop) (x : MV) (xs : List MV) (S : MS) (Q : MV → MS → Prop) : Prop := ∀ G own H v vs R, Ext G0 G → Rep K G own H S → VR K G v x → VRs K G vs xs → CV K G Q R → r v vs H R
def EvG (K : PySem.W.Frag) (G0 : Hp) (g : TG) (m : MV) (E : Env) (S : MS) (Q : Env → MS → Prop) : Prop := ∀ G own H σ v R, Ext G0 G → Rep K G own H S → ER K G σ E → VR K G v m → CS K G Q R → g v σ H R
def EvGs (K : PySem.W.Frag) (G0 : Hp) (g : TGs) (m : List MV) (E : Env) (S : MS) (Q : Env → MS → Prop) : Prop := ∀ G own H σ v R, Ext G0 G → Rep K G own H S → ER K G σ E → VRs K G v m → CS K G Q R → g v σ H R
def EvS (K : PySem.W.Frag) (G0 : Hp) (ts : TS) (E : Env) (S : MS) (N : ME) : Prop := ∀ G own H σ D, Ext G0 G → Rep K G own H S → ER K G σ E → CS K G N.nx D.nx → CV K G N.rt D.rt → CS K G N.bk D.bk → CS K G N.ct D.ct → ts D σ H
section
variable {K : PySem.W.Frag} {G0 : Hp} {E : Env} {S : MS}
/-! ### statements -/
variable {N : ME} {t u : TS} {te ta tb tc : TE} {tt c d : TT} {g : TG} {i : Nat} {Q : MV → MS → Prop}
theorem m_seq (h : EvS K G0 t E S ⟨fun E' S' => EvS K G0 u E' S' N, N.rt, N.bk, N.ct⟩) : EvS K G0 (tSeq t u) E S N := fun G own H σ D e R r n1 n2 n3 n4 =>
  h G own H σ { D with nx := u D } e R r (fun σ' H' G' own' E' S' e' R' r' q => q G' own' H' σ' D (e.trans e') R' r' (n1.ext e') (n2.ext e') (n3.ext e') (n4.ext e')) n2 n3 n4
theorem m_next (h : N.nx E S) : EvS K G0 tNext E S N := fun G own H σ D e R r n1 n2 n3 n4 => n1 σ H G own E S Ext.rfl' R r h
theorem m_brk (h : N.bk E S) : EvS K G0 tBreak E S N := fun G own H σ D e R r n1 n2 n3 n4 => n3 σ H G own E S Ext.rfl' R r h
theorem m_cont (h : N.ct E S) : EvS K G0 tCont E S N := fun G own H σ D e R r n1 n2 n3 n4 => n4 σ H G own E S Ext.rfl' R r h
theorem m_ret (h : EvE K G0 te E S N.rt) : EvS K G0 (tRet te) E S N := fun G own H σ D e R r n1 n2 n3 n4 => h G own H σ D.rt e R r n2
theorem m_retN (h : N.rt (.im .non) S) : EvS K G0 tRetN E S N := fun G own H σ D e R r n1 n2 n3 n4 => n2 .non H G own (.im .non) S Ext.rfl' R .non h
theorem m_drop (h : EvE K G0 te E S fun _ S' => N.nx E S') : EvS K G0 (tDrop te) E S N := fun G own H σ D e R r n1 n2 n3 n4 =>
  h G own H σ _ e R r fun v H' G' own' m S' e' R' _ q => n1 σ H' G' own' E S' e' R' (r.ext e') q
theorem m_asgG (h : EvE K G0 te E S fun m S' => EvG K G0 g m E S' N.nx) : EvS K G0 (tAsg te g) E S N := fun G own H σ D e R r n1 n2 n3 n4 =>
  h G own H σ _ e R r fun v H' G' own' m S' e' R' vr q => q G' own' H' σ v D.nx (e.trans e') R' (r.ext e') vr (n1.ext e')
theorem m_asg (h : EvE K G0 te E S fun m S' => N.nx (E.set i (some m)) S') : EvS K G0 (tAsg te (gName i)) E S N := m_asgG fun G own H σ R e Rp r cv => h G own H σ R e Rp r fun v H' G' own' m S' e' R' vr q =>
  cv v H' G' own' m S' e' R' vr fun G2 own2 H2 σ2 v2 R2 e2 Rp2 r2 vr2 cs => cs _ H2 G2 own2 _ S' Ext.rfl' Rp2 (r2.set i vr2) q
theorem m_if (h : EvT K G0 c E S fun b S' => (b = true → EvS K G0 t E S' N) ∧ (b = false → EvS K G0 u E S' N)) : EvS K G0 (tIfS c t u) E S N := fun G own H σ D e R r n1 n2 n3 n4 =>
  h G own H σ _ e R r fun b H' G' own' S' e' R' q => by
    cases b with
    | true => exact iteT (q.1 rfl G' own' H' σ D (e.trans e') R' (r.ext e') (n1.ext e') (n2.ext e') (n3.ext e') (n4.ext e'))
    | false => exact iteF (q.2 rfl G' own' H' σ D (e.trans e') R' (r.ext e') (n1.ext e') (n2.ext e') (n3.ext e') (n4.ext e'))
theorem m_raise {X : Value → MS → Prop} {Ex : XK} {cls : Value} (hX : CX K G0 X Ex) (h : X cls S) : EvS K G0 (tRaise Ex cls) E S N := fun G own H σ D e R r n1 n2 n3 n4 => hX cls H G own S e R h
/-! ### targets -/
theorem g_name {m : MV} {P : Env → MS → Prop} (h : P (E.set i (some m)) S) : EvG K G0 (gName i) m E S P := fun G own H σ v R e Rp r vr cs => cs _ H G own _ S Ext.rfl' Rp (r.set i vr) h
theorem g_tupI {n : Nat} {gs : TGs} {ds : List D} {P : Env → MS → Prop} (hl : ds.length = n) (h : EvGs K G0 gs (ds.map .im) E S P) : EvG K G0 (gTup K n gs) (.im (.tup ds)) E S P := fun G own H σ v R e Rp r vr cs => by
  cases vr with
  | tup ha hs => exact ⟨_, _, rfl, SqT.of (Rp.e _ _ ha), by rw [hs.length]; exact hl, h G own H σ _ R e Rp r hs.vrs cs⟩
theorem g_tupM {n : Nat} {gs : TGs} {a : Addr} {ms : List MV} {P : Env → MS → Prop} (hS : S a = some (.tup ms)) (hl : ms.length = n) (h : EvGs K G0 gs ms E S P) : EvG K G0 (gTup K n gs) (.mu a) E S P := fun G own H σ v R e Rp r vr cs => by
  obtain ⟨u, hu, vs, rfl, rv⟩ := Rp.look hS trivial
  cases vr
  exact ⟨_, _, rfl, SqT.of hu, (Paired.length rv).trans hl, h G own H σ _ R e Rp r rv cs⟩
theorem g_cons {gs : TGs} {m : MV} {ms : List MV} {P : Env → MS → Prop} (h : EvG K G0 g m E S fun E' S' => EvGs K G0 gs ms E' S' P) : EvGs K G0 (gCons g gs) (m :: ms) E S P := fun G own H σ v R e Rp r vr cs => by
  cases vr with
  | @cons v _ vs _ h1 h2 => exact ⟨v, vs, rfl, h G own H σ v _ e Rp r h1 fun σ' H' G' own' E' S' e' R' r' q => q G' own' H' σ' vs R (e.trans e') R' r' (VRs.ext e' h2) (cs.ext e')⟩
theorem g_nil {P : Env → MS → Prop} (h : P E S) : EvGs K G0 gNil [] E S P := fun G own H σ v R e Rp r vr cs => by
  cases vr; exact ⟨rfl, cs _ H G own _ S Ext.rfl' Rp r h⟩
/-! ### expressions -/
theorem m_var {m : MV} (he : E[i]? = some (some m)) (h : Q m S) : EvE K G0 (tVar i) E S Q := fun G own H σ R e Rp r cv => by
  obtain ⟨o, h1, v, h2, h3⟩ := Paired.get r he
  exact ⟨v, by rw [h1, h2], cv v H G own m S Ext.rfl' Rp h3 h⟩
theorem m_cI {n : Int} (h : Q (.im (.int n)) S) : EvE K G0 (tC (.int n)) E S Q := fun G own H σ R e Rp r cv => cv _ H G own _ S Ext.rfl' Rp (vr_int n) h
theorem m_cS {x : Str} (h : Q (.im (.str x)) S) : EvE K G0 (tC (.str x)) E S Q := fun G own H σ R e Rp r cv => cv _ H G own _ S Ext.rfl' Rp (vr_str x) h
theorem m_cB {b : Bool} (h : Q (.im (.bl b)) S) : EvE K G0 (tC (.bl b)) E S Q := fun G own H σ R e Rp r cv => cv _ H G own _ S Ext.rfl' Rp (vr_bl b) h
theorem m_cN (h : Q (.im .non) S) : EvE K G0 (tC .non) E S Q := fun G own H σ R e Rp r cv => cv _ H G own _ S Ext.rfl' Rp vr_non h
theorem m_cT {n : String} (h : Q (.ty n) S) : EvE K G0 (tC (.ty n)) E S Q := fun G own H σ R e Rp r cv => cv _ H G own _ S Ext.rfl' Rp (vr_ty n) h
theorem m_cR {a : Addr} (h : Q (.mu a) S) : EvE K G0 (tC (.ref a)) E S Q := fun G own H σ R e Rp r cv => cv _ H G own _ S Ext.rfl' Rp (vr_mu a) h
theorem m_op {r : R2} (h : EvE K G0 ta E S fun x S1 => EvE K G0 tb E S1 fun y S2 => EvR K G0 r x y S2 Q) : EvE K G0 (tOp r ta tb) E S Q := fun G own H σ R e Rp r cv =>
  h G own H σ _ e Rp r fun v H' G' own' m S' e' R' vr q => q G' own' H' σ _ (e.trans e') R' (r.ext e') fun v2 H2 G2 own2 m2 S2 e2 R2 vr2 q2 => q2 G2 own2 H2 v v2 R ((e.trans e').trans e2) R2 (vr.ext e2) vr2 (cv.ext (e'.trans e2))
theorem m_un {r : V → Hp → VK → Prop} (h : EvE K G0 ta E S fun x S1 => EvU K G0 r x S1 Q) : EvE K G0 (tUn r ta) E S Q := fun G own H σ R e Rp r cv =>
  h G own H σ _ e Rp r fun v H' G' own' m S' e' R' vr q => q G' own' H' v R (e.trans e') R' vr (cv.ext e')
theorem m_CB {r : List V → Hp → VK → Prop} {tr : TA} (h : EvA K G0 tr E S fun xs S1 => EvC K G0 r xs S1 Q) : EvE K G0 (tCB r tr) E S Q := fun G own H σ R e Rp r cv =>
  h G own H σ _ e Rp r fun v H' G' own' m S' e' R' vr q => q G' own' H' v R (e.trans e') R' vr (cv.ext e')
theorem m_nil {P : List MV → MS → Prop} (h : P [] S) : EvA K G0 tNil E S P := fun G own H σ R e Rp r cv => cv [] H G own [] S Ext.rfl' Rp .nil h
theorem m_cons {tr : TA} {P : List MV → MS → Prop} (h : EvE K G0 ta E S fun x S1 => EvA K G0 tr E S1 fun xs S2 => P (x :: xs) S2) : EvA K G0 (tCons ta tr) E S P := fun G own H σ R e Rp r cv =>
  h G own H σ _ e Rp r fun v H' G' own' m S' e' R' vr q => q G' own' H' σ _ (e.trans e') R' (r.ext e') fun v2 H2 G2 own2 m2 S2 e2 R2 vr2 q2 => cv (v :: v2) H2 G2 own2 (m :: m2) S2 (e'.trans e2) R2 (.cons (vr.ext e2) vr2) q2
theorem m_bm {T : String} {r : V → List V → Hp → VK → Prop} {tr : TA} (h : EvE K G0 ta E S fun x S1 => (∀ G own H v, Rep K G own H S1 → VR K G v x → tyV K T v H) ∧ EvA K G0 tr E S1 fun xs S2 => EvM K G0 T r x xs S2 Q) : EvE K G0 (tBM K T r ta tr) E S Q := fun G own H σ R e Rp r cv =>
  h G own H σ _ e Rp r fun v H' G' own' m S' e' R' vr q => ⟨q.1 G' own' H' v R' vr, q.2 G' own' H' σ _ (e.trans e') R' (r.ext e') fun v2 H2 G2 own2 m2 S2 e2 R2 vr2 q2 => q2 G2 own2 H2 v v2 R ((e.trans e').trans e2) R2 (vr.ext e2) vr2 (cv.ext (e'.trans e2))⟩
theorem m_sl {r : V → Option Int → Option Int → Hp → VK → Prop} {tl th : TO} (h : EvE K G0 ta E S fun x S1 => EvO K G0 tl E S1 fun l S2 => EvO K G0 th E S2 fun u S3 => EvU K G0 (fun v => r v l u) x S3 Q) : EvE K G0 (tSl r ta tl th) E S Q := fun G own H σ R e Rp r cv =>
  h G own H σ _ e Rp r fun v H' G' own' m S' e' R' vr q => q G' own' H' σ _ (e.trans e') R' (r.ext e') fun l H2 G2 own2 S2 e2 R2 q2 => q2 G2 own2 H2 σ _ ((e.trans e').trans e2) R2 ((r.ext e').ext e2) fun u H3 G3 own3 S3 e3 R3 q3 =>
    q3 G3 own3 H3 v R (((e.trans e').trans e2).trans e3) R3 ((vr.ext e2).ext e3) (cv.ext ((e'.trans e2).trans e3))
theorem m_noPart {P : Option Int → MS → Prop} (h : P none S) : EvO K G0 tNoPart E S P := fun G own H σ R e Rp r cv => cv none H G own S Ext.rfl' Rp h
theorem m_part {P : Option Int → MS → Prop} (h : EvE K G0 te E S fun m S' => ∃ n, m = .im (.int n) ∧ P (some n) S') : EvO K G0 (tPart te) E S P := fun G own H σ R e Rp r cv =>
  h G own H σ _ e Rp r fun v H' G' own' m S' e' R' vr q => by
    obtain ⟨n, rfl, q⟩ := q
    cases vr
    exact ⟨n, rfl, cv _ H' G' own' S' e' R' q⟩
theorem m_chain {r r' : R2} (h : EvE K G0 ta E S fun x S1 => EvE K G0 tb E S1 fun y S2 => EvR K G0 r x y S2 fun z S3 => ∃ k, z = .im (.bl k) ∧ (k = true → EvE K G0 tc E S3 fun w S4 => EvR K G0 r' y w S4 Q) ∧ (k = false → Q (.im (.bl false)) S3)) : EvE K G0 (tChain r r' ta tb tc) E S Q := fun G own H σ R e Rp er cv =>
  h G own H σ _ e Rp er fun v H' G' own' m S' e' R' vr q => q G' own' H' σ _ (e.trans e') R' (er.ext e') fun v2 H2 G2 own2 m2 S2 e2 R2 vr2 q2 => q2 G2 own2 H2 v v2 _ ((e.trans e').trans e2) R2 (vr.ext e2) vr2
    fun z H3 G3 own3 m3 S3 e3 R3 vr3 q3 => by
      obtain ⟨k, rfl, q4, q5⟩ := q3
      cases vr3
      refine ⟨k, rfl, ?_⟩
      cases k with
      | true => exact iteT (q4 rfl G3 own3 H3 σ _ (((e.trans e').trans e2).trans e3) R3 (((er.ext e').ext e2).ext e3) fun w H4 G4 own4 m4 S4 e4 R4 vr4 q6 => q6 G4 own4 H4 v2 w R ((((e.trans e').trans e2).trans e3).trans e4) R4 ((vr2.ext e3).ext e4) vr4 (cv.ext (((e'.trans e2).trans e3).trans e4)))
      | false => exact iteF (cv _ H3 G3 own3 _ S3 ((e'.trans e2).trans e3) R3 (vr_bl false) (q5 rfl))
/-! ### tests -/
variable {P : Bool → MS → Prop}
theorem m_test (h : EvE K G0 te E S fun m S' => ∃ b, m = .im (.bl b) ∧ P b S') : EvT K G0 (tTest te) E S P := fun G own H σ R e Rp r cv =>
  h G own H σ _ e Rp r fun v H' G' own' m S' e' R' vr q => by
    obtain ⟨n, rfl, q⟩ := q
    cases vr
    exact ⟨n, rfl, cv _ H' G' own' S' e' R' q⟩
theorem m_B (h : EvE K G0 te E S fun m S' => ∃ b, m = .im (.bl b) ∧ P b S') : EvT K G0 (tB te) E S P := m_test h
theorem m_and (h : EvT K G0 c E S fun b S1 => (b = true → EvT K G0 d E S1 P) ∧ (b = false → P false S1)) : EvT K G0 (tAnd c d) E S P := fun G own H σ R e Rp r cv =>
  h G own H σ _ e Rp r fun b H' G' own' S' e' R' q => by
    cases b with
    | true => exact iteT (q.1 rfl G' own' H' σ R (e.trans e') R' (r.ext e') (cv.ext e'))
    | false => exact iteF (cv _ H' G' own' S' e' R' (q.2 rfl))
theorem m_or (h : EvT K G0 c E S fun b S1 => (b = true → P true S1) ∧ (b = false → EvT K G0 d E S1 P)) : EvT K G0 (tOr c d) E S P := fun G own H σ R e Rp r cv =>
  h G own H σ _ e Rp r fun b H' G' own' S' e' R' q => by
    cases b with
    | true => exact iteT (cv _ H' G' own' S' e' R' (q.1 rfl))
    | false => exact iteF (q.2 rfl G' own' H' σ R (e.trans e') R' (r.ext e') (cv.ext e'))
theorem m_not (h : EvT K G0 c E S fun b S1 => P (!b) S1) : EvT K G0 (tNot c) E S P := fun G own H σ R e Rp r cv =>
  h G own H σ _ e Rp r fun b H' G' own' S' e' R' q => cv _ H' G' own' S' e' R' q
theorem m_yes (h : P true S) : EvT K G0 tYes E S P := fun G own H σ R e Rp r cv => cv _ H G own S Ext.rfl' Rp h
theorem m_andV (h : EvE K G0 ta E S fun m S1 => ∃ b, m = .im (.bl b) ∧ (b = true → EvE K G0 tb E S1 Q) ∧ (b = false → Q (.im (.bl false)) S1)) : EvE K G0 (tAndV ta tb) E S Q := fun G own H σ R e Rp r cv =>
  h G own H σ _ e Rp r fun v H' G' own' m S' e' R' vr q => by
    obtain ⟨b, rfl, q1, q2⟩ := q
    cases vr
    refine ⟨b, rfl, ?_⟩
    cases b with
    | true => exact iteT (q1 rfl G' own' H' σ R (e.trans e') R' (r.ext e') (cv.ext e'))
    | false => exact iteF (cv _ H' G' own' _ S' e' R' (vr_bl false) (q2 rfl))
theorem m_orV (h : EvE K G0 ta E S fun m S1 => ∃ b, m = .im (.bl b) ∧ (b = true → Q (.im (.bl true)) S1) ∧ (b = false → EvE K G0 tb E S1 Q)) : EvE K G0 (tOrV ta tb) E S Q := fun G own H σ R e Rp r cv =>
  h G own H σ _ e Rp r fun v H' G' own' m S' e' R' vr q => by
    obtain ⟨b, rfl, q1, q2⟩ := q
    cases vr
    refine ⟨b, rfl, ?_⟩
    cases b with
    | true => exact iteT (cv _ H' G' own' _ S' e' R' (vr_bl true) (q1 rfl))
    | false => exact iteF (q2 rfl G' own' H' σ R (e.trans e') R' (r.ext e') (cv.ext e'))
theorem m_notV (h : EvE K G0 ta E S fun m S1 => ∃ b, m = .im (.bl b) ∧ Q (.im (.bl (!b))) S1) : EvE K G0 (tNotV ta) E S Q := fun G own H σ R e Rp r cv =>
  h G own H σ _ e Rp r fun v H' G' own' m S' e' R' vr q => by
    obtain ⟨b, rfl, q⟩ := q
    cases vr
    exact ⟨b, rfl, cv _ H' G' own' _ S' e' R' (vr_bl _) q⟩
theorem m_bl {b : Bool} {P : Bool → Prop} (h : P b) : ∃ k, MV.im (.bl b) = .im (.bl k) ∧ P k := ⟨b, rfl, h⟩
theorem m_bl2 {b : Bool} {A B : Bool → Prop} (h : A b ∧ B b) : ∃ k, MV.im (.bl b) = .im (.bl k) ∧ A k ∧ B k := ⟨b, rfl, h⟩
theorem m_intP {j : Int} {P : Option Int → Prop} (h : P (some j)) : ∃ k, MV.im (.int j) = .im (.int k) ∧ P (some k) := ⟨j, rfl, h⟩
/-! ### operators -/
section ops
variable {a b : Int} {x y : Str}
theorem r_int {r : R2} {C : Int → Int → Prop} {f : Int → Int → V} {m : MV} (hr : r = rI C f) (e : C a b) (hm : ∀ K G, VR K G (f a b) m) (h : Q m S) : EvR K G0 r (.im (.int a)) (.im (.int b)) S Q := fun G own H v u R _ Rp vr vu cv => by
  subst hr
  cases vr; cases vu
  exact ⟨a, b, rfl, rfl, e, cv _ H G own m S Ext.rfl' Rp (hm _ _) h⟩
theorem r_int0 {r : R2} {f : Int → Int → V} {m : MV} (hr : r = rI0 f) (hm : ∀ K G, VR K G (f a b) m) (h : Q m S) : EvR K G0 r (.im (.int a)) (.im (.int b)) S Q := fun G own H v u R _ Rp vr vu cv => by
  subst hr
  cases vr; cases vu
  exact ⟨a, b, rfl, rfl, cv _ H G own m S Ext.rfl' Rp (hm _ _) h⟩
theorem m_add (h : Q (.im (.int (a + b))) S) : EvR K G0 r_add (.im (.int a)) (.im (.int b)) S Q := r_int0 rfl (fun _ _ => vr_int _) h
theorem m_sub (h : Q (.im (.int (a - b))) S) : EvR K G0 r_sub (.im (.int a)) (.im (.int b)) S Q := r_int0 rfl (fun _ _ => vr_int _) h
theorem m_mul (e : CMul a b) (h : Q (.im (.int (a * b))) S) : EvR K G0 r_mul (.im (.int a)) (.im (.int b)) S Q := r_int rfl e (fun _ _ => vr_int _) h
theorem m_div (e : CDiv a b) (h : Q (.im (.int (a / b))) S) : EvR K G0 r_div (.im (.int a)) (.im (.int b)) S Q := r_int rfl e (fun _ _ => vr_int _) h
theorem m_mod (e : 0 < b) (h : Q (.im (.int (a % b))) S) : EvR K G0 r_mod (.im (.int a)) (.im (.int b)) S Q := r_int rfl e (fun _ _ => vr_int _) h
theorem m_pow (e : CPow a b) (h : Q (.im (.int (a ^ b.toNat))) S) : EvR K G0 r_pow (.im (.int a)) (.im (.int b)) S Q := r_int rfl e (fun _ _ => vr_int _) h
theorem m_lt (h : Q (.im (.bl (decide (a < b)))) S) : EvR K G0 r_lt (.im (.int a)) (.im (.int b)) S Q := r_int0 rfl (fun _ _ => vr_bl _) h
theorem m_le (h : Q (.im (.bl (decide (a ≤ b)))) S) : EvR K G0 r_le (.im (.int a)) (.im (.int b)) S Q := r_int0 rfl (fun _ _ => vr_bl _) h
theorem m_gt (h : Q (.im (.bl (decide (b < a)))) S) : EvR K G0 r_gt (.im (.int a)) (.im (.int b)) S Q := r_int0 rfl (fun _ _ => vr_bl _) h
theorem m_ge (h : Q (.im (.bl (decide (b ≤ a)))) S) : EvR K G0 r_ge (.im (.int a)) (.im (.int b)) S Q := r_int0 rfl (fun _ _ => vr_bl _) h
theorem m_neg (h : Q (.im (.int (-a))) S) : EvU K G0 r_neg (.im (.int a)) S Q := fun G own H v R _ Rp vr cv => by
  cases vr
  exact ⟨a, rfl, cv _ H G own _ S Ext.rfl' Rp (vr_int _) h⟩
theorem m_cat (e : x.length + y.length ≤ 1000000) (h : Q (.im (.str (x ++ y))) S) : EvR K G0 r_cat (.im (.str x)) (.im (.str y)) S Q := fun G own H v u R _ Rp vr vu cv => by
  cases vr; cases vu
  exact ⟨x, y, rfl, rfl, by rw [sizeLine_eq]; omega, cv _ H G own _ S Ext.rfl' Rp (vr_str _) h⟩
def isN : MV → Bool
  | .im .non => true
  | _ => false
theorem isN_ok {G : Hp} {v : V} {m : MV} (h : VR K G v m) : decide (v = .non) = isN m := by
  cases m with
  | im d => cases h <;> simp [isN]
  | mu a => cases h; simp [isN]
  | ty n => cases h; simp [isN]
theorem m_isN {m : MV} (h : Q (.im (.bl (isN m))) S) : EvR K G0 r_isN m (.im .non) S Q := fun G own H v u R _ Rp vr vu cv => by
  cases vu
  refine ⟨rfl, cv _ H G own (.im (.bl (isN m))) S Ext.rfl' Rp ?_ h⟩
  rw [isN_ok vr]; exact .bl _
theorem m_notN {m : MV} (h : Q (.im (.bl (!isN m))) S) : EvR K G0 r_notN m (.im .non) S Q := fun G own H v u R _ Rp vr vu cv => by
  cases vu
  refine ⟨rfl, cv _ H G own (.im (.bl (!isN m))) S Ext.rfl' Rp ?_ h⟩
  rw [isN_ok vr]; exact .bl _
/-- flat data that == takes -/
def sca : D → D → Bool
  | .non, .non => true | .non, .int _ => true | .int _, .non => true | .non, .bl _ => true | .bl _, .non => true | .non, .str _ => true | .str _, .non => true
  | .int _, .int _ => true | .bl _, .bl _ => true | .str _, .str _ => true
  | .int _, .str _ => true | .str _, .int _ => true | .bl _, .str _ => true | .str _, .bl _ => true
  | _, _ => false
def eqS : D → D → Bool
  | .non, .non => true
  | .int i, .int j => decide (i = j)
  | .bl i, .bl j => decide (i = j)
  | .str i, .str j => decide (i = j)
  | _, _ => false
theorem eqS_ok {G : Hp} {v u : V} {d e : D} (s : sca d e = true) (h : Im K G v d) (g : Im K G u e) : scal v u = true ∧ decide (v = u) = eqS d e := by
  cases h <;> cases g <;> first | (refine ⟨rfl, ?_⟩; simp [eqS]; done) | (exact absurd s (by simp [sca]))
theorem m_eqD {d e : D} (s : sca d e = true) (h : Q (.im (.bl (eqS d e))) S) : EvR K G0 rEq (.im d) (.im e) S Q := fun G own H v u R _ Rp vr vu cv => by
  obtain ⟨h1, h2⟩ := eqS_ok s vr vu
  refine ⟨h1, cv _ H G own (.im (.bl (eqS d e))) S Ext.rfl' Rp ?_ h⟩
  rw [h2]; exact .bl _
theorem m_neD {d e : D} (s : sca d e = true) (h : Q (.im (.bl (!eqS d e))) S) : EvR K G0 rNe (.im d) (.im e) S Q := fun G own H v u R _ Rp vr vu cv => by
  obtain ⟨h1, h2⟩ := eqS_ok s vr vu
  refine ⟨h1, cv _ H G own (.im (.bl (!eqS d e))) S Ext.rfl' Rp ?_ h⟩
  rw [h2]; exact .bl _
theorem m_eqI (h : Q (.im (.bl (decide (a = b)))) S) : EvR K G0 rEq (.im (.int a)) (.im (.int b)) S Q := m_eqD rfl h
theorem m_neI (h : Q (.im (.bl (!decide (a = b)))) S) : EvR K G0 rNe (.im (.int a)) (.im (.int b)) S Q := m_neD rfl h
theorem m_eqS (h : Q (.im (.bl (decide (x = y)))) S) : EvR K G0 rEq (.im (.str x)) (.im (.str y)) S Q := m_eqD rfl h
theorem m_neS (h : Q (.im (.bl (!decide (x = y)))) S) : EvR K G0 rNe (.im (.str x)) (.im (.str y)) S Q := m_neD rfl h
theorem m_inC {ch : Nat} (h : Q (.im (.bl (decide (ch ∈ x.cps.toList)))) S) : EvR K G0 r_inC (.im (.str ⟨#[ch]⟩)) (.im (.str x)) S Q := fun G own H v u R _ Rp vr vu cv => by
  cases vr; cases vu
  exact ⟨ch, x, rfl, rfl, cv _ H G own _ S Ext.rfl' Rp (vr_bl _) h⟩
theorem m_niC {ch : Nat} (h : Q (.im (.bl (!decide (ch ∈ x.cps.toList)))) S) : EvR K G0 r_niC (.im (.str ⟨#[ch]⟩)) (.im (.str x)) S Q := fun G own H v u R _ Rp vr vu cv => by
  cases vr; cases vu
  exact ⟨ch, x, rfl, rfl, cv _ H G own _ S Ext.rfl' Rp (vr_bl _) h⟩
/-! ### indexing, slices, lengths -/
theorem atI_pair {α β : Type} {F : α → β → Prop} {l : List α} {r : List β} (h : Paired F l r) {i : Int} {y : β} (e : atI r i = some y) : ∃ z, atI l i = some z ∧ F z y := by
  unfold atI at e ⊢
  rw [Paired.length h]
  cases q : ixN r.length i with
  | none => rw [q] at e; cases e
  | some j =>
    rw [q] at e
    exact Paired.get h (by simpa using e)
theorem atI_map {α β : Type} {f : α → β} {l : List α} {i : Int} {y : α} (e : atI l i = some y) : atI (l.map f) i = some (f y) := by
  unfold atI at e ⊢
  rw [List.length_map]
  cases q : ixN l.length i with
  | none => rw [q] at e; cases e
  | some j => rw [q] at e; have e' : l[j]? = some y := e; show (l.map f)[j]? = _; rw [List.getElem?_map, e']; rfl
theorem m_ixI {ds : List D} {d : D} (e2 : atI ds a = some d) (h : Q (.im d) S) : EvR K G0 (rIxL K) (.im (.lst ds)) (.im (.int a)) S Q := fun G own H v u R _ Rp vr vu cv => by
  cases vu
  cases vr with
  | lst ha hs =>
    obtain ⟨z, h1, h2⟩ := atI_pair hs.vrs (atI_map (f := MV.im) e2)
    exact ⟨_, _, a, z, rfl, rfl, SqL.of (Rp.e _ _ ha), h1, cv _ H G own _ S Ext.rfl' Rp h2 h⟩
theorem m_ixM {p : Addr} {ms : List MV} {m : MV} (hS : S p = some (.lst ms)) (e2 : atI ms a = some m) (h : Q m S) : EvR K G0 (rIxL K) (.mu p) (.im (.int a)) S Q := fun G own H v u R _ Rp vr vu cv => by
  obtain ⟨u, hu, vs, rfl, rv⟩ := Rp.look hS trivial
  cases vu
  cases vr
  obtain ⟨z, h1, h2⟩ := atI_pair rv e2
  exact ⟨_, _, a, z, rfl, rfl, SqL.of hu, h1, cv _ H G own _ S Ext.rfl' Rp h2 h⟩
theorem m_ixScr {ns : List Int} {n : Int} (e2 : atI ns a = some n) (h : Q (.im (.int n)) S) : EvR K G0 (rIxL K) (.im (.scr ns)) (.im (.int a)) S Q := fun G own H v u R _ Rp vr vu cv => by
  cases vu
  cases vr with
  | scr hs => exact ⟨_, _, a, .int n, rfl, rfl, hs.ext Rp.e, atI_map e2, cv _ H G own _ S Ext.rfl' Rp (vr_int n) h⟩
theorem m_ixT {ds : List D} {d : D} (e2 : atI ds a = some d) (h : Q (.im d) S) : EvR K G0 (rIxT K) (.im (.tup ds)) (.im (.int a)) S Q := fun G own H v u R _ Rp vr vu cv => by
  cases vu
  cases vr with
  | tup ha hs =>
    obtain ⟨z, h1, h2⟩ := atI_pair hs.vrs (atI_map (f := MV.im) e2)
    exact ⟨_, _, a, z, rfl, rfl, SqT.of (Rp.e _ _ ha), h1, cv _ H G own _ S Ext.rfl' Rp h2 h⟩
theorem m_ixTM {p : Addr} {ms : List MV} {m : MV} (hS : S p = some (.tup ms)) (e2 : atI ms a = some m) (h : Q m S) : EvR K G0 (rIxT K) (.mu p) (.im (.int a)) S Q := fun G own H v u R _ Rp vr vu cv => by
  obtain ⟨u, hu, vs, rfl, rv⟩ := Rp.look hS trivial
  cases vu
  cases vr
  obtain ⟨z, h1, h2⟩ := atI_pair rv e2
  exact ⟨_, _, a, z, rfl, rfl, SqT.of hu, h1, cv _ H G own _ S Ext.rfl' Rp h2 h⟩
theorem m_ixS {ch : Nat} (e : x.length ≤ 1000000) (e2 : atI x.cps.toList a = some ch) (h : Q (.im (.str ⟨#[ch]⟩)) S) : EvR K G0 rIxS (.im (.str x)) (.im (.int a)) S Q := fun G own H v u R _ Rp vr vu cv => by
  cases vu; cases vr
  exact ⟨x, a, ch, rfl, rfl, by rw [sizeLine_eq]; omega, e2, cv _ H G own _ S Ext.rfl' Rp (vr_str _) h⟩
def cutD {α : Type} (xs : List α) (lo hi : Option Int) : List α := (xs.drop (HT.sIx xs.length 0 lo)).take (HT.sIx xs.length xs.length hi - HT.sIx xs.length 0 lo)
theorem cutD_map {α β : Type} (f : α → β) (xs : List α) (lo hi : Option Int) : cutD (xs.map f) lo hi = (cutD xs lo hi).map f := by
  unfold cutD; rw [List.length_map, List.map_take, List.map_drop]
theorem cut_pair {F : V → MV → Prop} {l : List V} {r : List MV} (h : Paired F l r) (lo hi : Option Int) : Paired F (cutV l lo hi) (cutD r lo hi) := by
  unfold cutV cutD
  rw [Paired.length h]
  exact Paired.takeP _ (Paired.dropP _ h)
theorem m_slS {lo hi : Option Int} (e : x.length ≤ 1000000) (h : Q (.im (.str (cutS x lo hi))) S) : EvU K G0 (fun v => rSlS v lo hi) (.im (.str x)) S Q := fun G own H v R _ Rp vr cv => by
  cases vr
  exact ⟨x, rfl, by rw [sizeLine_eq]; omega, cv _ H G own _ S Ext.rfl' Rp (vr_str _) h⟩
/-- a new list, as a cell -/
theorem new_lst {G : Hp} {own : Addr → Option Addr} {H : Hp} {R : VK} {vs : List V} {ms : List MV} (Rp : Rep K G own H S) (rv : VRs K G vs ms) (cv : CV K G Q R) (h : ∀ p, S p = none → Q (.mu p) (mup S p (.lst ms))) : ∀ p, H p = none → R (.ref p) (upd H p (.lst vs)) :=
  fun p hp => cv _ _ G _ (.mu p) _ Ext.rfl' (Rp.cell hp (fr_lst rv)) rfl (h p (Rp.free hp))
theorem new_lstI {G : Hp} {own : Addr → Option Addr} {H : Hp} {R : VK} {vs : List V} {ds : List D} (Rp : Rep K G own H S) (rv : ImA K G vs ds) (cv : CV K G Q R) (h : Q (.im (.lst ds)) S) : ∀ p, H p = none → R (.ref p) (upd H p (.lst vs)) :=
  fun p hp => cv _ _ _ own (.im (.lst ds)) S (Rp.laid hp).1 (Rp.laid hp).2 (.lst upd_same (rv.ext (Rp.laid hp).1)) h
theorem m_slM {lo hi : Option Int} {q : Addr} {ms : List MV} (hS : S q = some (.lst ms)) (h : ∀ p, S p = none → Q (.mu p) (mup S p (.lst (cutD ms lo hi)))) : EvU K G0 (fun v => rSlL K v lo hi) (.mu q) S Q := fun G own H v R _ Rp vr cv => by
  obtain ⟨u, hu, vs, rfl, rv⟩ := Rp.look hS trivial
  cases vr
  exact ⟨_, vs, rfl, SqL.of hu, new_lst Rp (cut_pair rv lo hi) cv h⟩
theorem m_slI {lo hi : Option Int} {ds : List D} (h : Q (.im (.lst (cutD ds lo hi))) S) : EvU K G0 (fun v => rSlL K v lo hi) (.im (.lst ds)) S Q := fun G own H v R _ Rp vr cv => by
  cases vr with
  | lst ha hs =>
    refine ⟨_, _, rfl, SqL.of (Rp.e _ _ ha), new_lstI Rp ?_ cv h⟩
    have := cut_pair hs.vrs lo hi
    rw [cutD_map] at this
    exact VRs.ims this
theorem m_slIM {lo hi : Option Int} {ds : List D} (h : ∀ p, S p = none → Q (.mu p) (mup S p (.lst ((cutD ds lo hi).map .im)))) : EvU K G0 (fun v => rSlL K v lo hi) (.im (.lst ds)) S Q := fun G own H v R _ Rp vr cv => by
  cases vr with
  | lst ha hs =>
    refine ⟨_, _, rfl, SqL.of (Rp.e _ _ ha), new_lst Rp ?_ cv h⟩
    have := cut_pair hs.vrs lo hi
    rw [cutD_map] at this
    exact this
theorem m_slMI {lo hi : Option Int} {q : Addr} {ds : List D} (hS : S q = some (.lst (ds.map .im))) (h : Q (.im (.lst (cutD ds lo hi))) S) : EvU K G0 (fun v => rSlL K v lo hi) (.mu q) S Q := fun G own H v R _ Rp vr cv => by
  obtain ⟨u, hu, vs, rfl, rv⟩ := Rp.look hS trivial
  cases vr
  refine ⟨_, vs, rfl, SqL.of hu, new_lstI Rp ?_ cv h⟩
  have := cut_pair rv lo hi
  rw [cutD_map] at this
  exact VRs.ims this
theorem ints_ima {G : Hp} : ∀ ns : List Int, ImA K G (ns.map V.int) (ns.map D.int)
  | [] => .nil
  | n :: ns => .cons (.int n) (ints_ima ns)
theorem m_slScr {lo hi : Option Int} {ns : List Int} (h : Q (.im (.lst ((cutD ns lo hi).map .int))) S) : EvU K G0 (fun v => rSlL K v lo hi) (.im (.scr ns)) S Q := fun G own H v R _ Rp vr cv => by
  cases vr with
  | scr hs =>
    refine ⟨_, _, rfl, hs.ext Rp.e, new_lstI Rp ?_ cv h⟩
    have : cutV (ns.map V.int) lo hi = (cutD ns lo hi).map V.int := cutD_map _ ns lo hi
    rw [this]
    exact ints_ima _
theorem m_lenI {ds : List D} (h : Q (.im (.int ds.length)) S) : EvC K G0 (c_len K) [.im (.lst ds)] S Q := fun G own H v R _ Rp vr cv => by
  cases vr with
  | cons h1 h2 =>
    cases h2
    cases h1 with
    | lst ha hs => exact ⟨_, _, rfl, .inl (SqL.of (Rp.e _ _ ha)), by rw [hs.length]; exact cv _ H G own _ S Ext.rfl' Rp (vr_int _) h⟩
theorem m_lenT {ds : List D} (h : Q (.im (.int ds.length)) S) : EvC K G0 (c_len K) [.im (.tup ds)] S Q := fun G own H v R _ Rp vr cv => by
  cases vr with
  | cons h1 h2 =>
    cases h2
    cases h1 with
    | tup ha hs => exact ⟨_, _, rfl, .inr (SqT.of (Rp.e _ _ ha)), by rw [hs.length]; exact cv _ H G own _ S Ext.rfl' Rp (vr_int _) h⟩
theorem m_lenScr {ns : List Int} (h : Q (.im (.int ns.length)) S) : EvC K G0 (c_len K) [.im (.scr ns)] S Q := fun G own H v R _ Rp vr cv => by
  cases vr with
  | cons h1 h2 =>
    cases h2
    cases h1 with
    | scr hs => exact ⟨_, _, rfl, .inl (hs.ext Rp.e), by rw [List.length_map]; exact cv _ H G own _ S Ext.rfl' Rp (vr_int _) h⟩
theorem m_lenM {p : Addr} {ms : List MV} (hS : S p = some (.lst ms)) (h : Q (.im (.int ms.length)) S) : EvC K G0 (c_len K) [.mu p] S Q := fun G own H v R _ Rp vr cv => by
  obtain ⟨u, hu, vs, rfl, rv⟩ := Rp.look hS trivial
  cases vr with
  | cons h1 h2 =>
    cases h2
    cases h1
    exact ⟨_, _, rfl, .inl (SqL.of hu), by rw [Paired.length rv]; exact cv _ H G own _ S Ext.rfl' Rp (vr_int _) h⟩
theorem m_lenS (e : x.length ≤ 1000000) (h : Q (.im (.int x.length)) S) : EvC K G0 c_lenS [.im (.str x)] S Q := fun G own H v R _ Rp vr cv => by
  cases vr with
  | cons h1 h2 =>
    cases h2
    cases h1
    exact ⟨x, rfl, by rw [sizeLine_eq]; omega, cv _ H G own _ S Ext.rfl' Rp (vr_int _) h⟩
theorem m_min2 (h : Q (.im (.int (if b < a then b else a))) S) : EvC K G0 c_min2 [.im (.int a), .im (.int b)] S Q := fun G own H v R _ Rp vr cv => by
  cases vr with
  | cons h1 h2 => cases h2 with
    | cons h2 h3 =>
      cases h1; cases h2; cases h3
      exact ⟨a, b, rfl, cv _ H G own _ S Ext.rfl' Rp (vr_int _) h⟩
theorem m_max2 (h : Q (.im (.int (if b > a then b else a))) S) : EvC K G0 c_max2 [.im (.int a), .im (.int b)] S Q := fun G own H v R _ Rp vr cv => by
  cases vr with
  | cons h1 h2 => cases h2 with
    | cons h2 h3 =>
      cases h1; cases h2; cases h3
      exact ⟨a, b, rfl, cv _ H G own _ S Ext.rfl' Rp (vr_int _) h⟩
theorem m_strI (e : a.natAbs.log2 < 1920) (h : Q (.im (.str (toString a))) S) : EvC K G0 c_strI [.im (.int a)] S Q := fun G own H v R _ Rp vr cv => by
  cases vr with
  | cons h1 h2 =>
    cases h2; cases h1
    exact ⟨a, rfl, e, cv _ H G own _ S Ext.rfl' Rp (vr_str _) h⟩
theorem m_intB {k : Bool} (h : Q (.im (.int (if k then 1 else 0))) S) : EvC K G0 c_int [.im (.bl k)] S Q := fun G own H v R _ Rp vr cv => by
  cases vr with
  | cons h1 h2 =>
    cases h2; cases h1
    exact .inr ⟨k, rfl, cv _ H G own _ S Ext.rfl' Rp (vr_int _) h⟩
theorem m_listI {ds : List D} (h : Q (.im (.lst ds)) S) : EvC K G0 (c_list K) [.im (.lst ds)] S Q := fun G own H v R _ Rp vr cv => by
  cases vr with
  | cons h1 h2 =>
    cases h2
    cases h1 with
    | lst ha hs => exact ⟨_, _, rfl, .inl (SqL.of (Rp.e _ _ ha)), new_lstI Rp hs cv h⟩
theorem m_listIM {ds : List D} (h : ∀ p, S p = none → Q (.mu p) (mup S p (.lst (ds.map .im)))) : EvC K G0 (c_list K) [.im (.lst ds)] S Q := fun G own H v R _ Rp vr cv => by
  cases vr with
  | cons h1 h2 =>
    cases h2
    cases h1 with
    | lst ha hs => exact ⟨_, _, rfl, .inl (SqL.of (Rp.e _ _ ha)), new_lst Rp hs.vrs cv h⟩
theorem m_listM {p : Addr} {ms : List MV} (hS : S p = some (.lst ms)) (h : ∀ p, S p = none → Q (.mu p) (mup S p (.lst ms))) : EvC K G0 (c_list K) [.mu p] S Q := fun G own H v R _ Rp vr cv => by
  obtain ⟨u, hu, vs, rfl, rv⟩ := Rp.look hS trivial
  cases vr with
  | cons h1 h2 =>
    cases h2
    cases h1
    exact ⟨_, _, rfl, .inl (SqL.of hu), new_lst Rp rv cv h⟩
theorem m_listMI {p : Addr} {ds : List D} (hS : S p = some (.lst (ds.map .im))) (h : Q (.im (.lst ds)) S) : EvC K G0 (c_list K) [.mu p] S Q := fun G own H v R _ Rp vr cv => by
  obtain ⟨u, hu, vs, rfl, rv⟩ := Rp.look hS trivial
  cases vr with
  | cons h1 h2 =>
    cases h2
    cases h1
    exact ⟨_, _, rfl, .inl (SqL.of hu), new_lstI Rp (VRs.ims rv) cv h⟩
theorem m_listTI {ds : List D} (h : Q (.im (.lst ds)) S) : EvC K G0 (c_list K) [.im (.tup ds)] S Q := fun G own H v R _ Rp vr cv => by
  cases vr with
  | cons h1 h2 =>
    cases h2
    cases h1 with
    | tup ha hs => exact ⟨_, _, rfl, .inr (SqT.of (Rp.e _ _ ha)), new_lstI Rp hs cv h⟩
end ops
/-! ### displays -/
theorem m_tupI {tr : TA} (h : EvA K G0 tr E S fun ms S1 => ∃ ds : List D, ms = ds.map .im ∧ ds.length ≤ 1000 ∧ Q (.im (.tup ds)) S1) : EvE K G0 (tTup tr) E S Q := fun G own H σ R e Rp r cv =>
  h G own H σ _ e Rp r fun v H' G' own' m S' e' R' vr q => by
    obtain ⟨ds, rfl, hl, q⟩ := q
    have := (VRs.ims vr).length
    exact ⟨by rw [sizeLine_eq]; omega, fun p hp => cv _ _ _ own' (.im (.tup ds)) S' (e'.trans (R'.laid hp).1) (R'.laid hp).2 (.tup upd_same ((VRs.ims vr).ext (R'.laid hp).1)) q⟩
theorem m_tupM {tr : TA} (h : EvA K G0 tr E S fun ms S1 => ms.length ≤ 1000 ∧ ∀ p, S1 p = none → Q (.mu p) (mup S1 p (.tup ms))) : EvE K G0 (tTup tr) E S Q := fun G own H σ R e Rp r cv =>
  h G own H σ _ e Rp r fun v H' G' own' m S' e' R' vr q => by
    have := Paired.length vr
    exact ⟨by rw [sizeLine_eq]; omega, fun p hp => cv _ _ G' _ (.mu p) _ e' (R'.cell hp (fr_tup vr)) rfl (q.2 p (R'.free hp))⟩
theorem m_lstI {tr : TA} (h : EvA K G0 tr E S fun ms S1 => ∃ ds : List D, ms = ds.map .im ∧ ds.length ≤ 1000 ∧ Q (.im (.lst ds)) S1) : EvE K G0 (tLst tr) E S Q := fun G own H σ R e Rp r cv =>
  h G own H σ _ e Rp r fun v H' G' own' m S' e' R' vr q => by
    obtain ⟨ds, rfl, hl, q⟩ := q
    have := (VRs.ims vr).length
    exact ⟨by rw [sizeLine_eq]; omega, new_lstI R' (VRs.ims vr) (cv.ext e') q⟩
theorem m_lstM {tr : TA} (h : EvA K G0 tr E S fun ms S1 => ms.length ≤ 1000 ∧ ∀ p, S1 p = none → Q (.mu p) (mup S1 p (.lst ms))) : EvE K G0 (tLst tr) E S Q := fun G own H σ R e Rp r cv =>
  h G own H σ _ e Rp r fun v H' G' own' m S' e' R' vr q => by
    have := Paired.length vr
    exact ⟨by rw [sizeLine_eq]; omega, new_lst R' vr (cv.ext e') q.2⟩
theorem m_dNew (h : ∀ p, S p = none → Q (.mu p) (mup S p (.dct []))) : EvE K G0 tDNewK E S Q := fun G own H σ R e Rp r cv p hp =>
  cv _ _ G _ (.mu p) _ Ext.rfl' (Rp.cell hp (fr_dct .nil)) rfl (h p (Rp.free hp))
/-! ### lists and dicts that change -/
theorem tyL_I {ds : List D} : ∀ G own H v, Rep K G own H S → VR K G v (.im (.lst ds)) → tyV K "list" v H := fun G own H v R vr => by
  cases vr with
  | lst ha hs => exact .inl ⟨rfl, _, SqL.of (R.e _ _ ha)⟩
theorem tyL_M {p : Addr} {ms : List MV} (hS : S p = some (.lst ms)) : ∀ G own H v, Rep K G own H S → VR K G v (.mu p) → tyV K "list" v H := fun G own H v R vr => by
  obtain ⟨u, hu, vs, rfl, rv⟩ := R.look hS trivial
  cases vr
  exact .inl ⟨rfl, _, SqL.of hu⟩
theorem tyD_M {p : Addr} {kvs : List (Key × MV)} (hS : S p = some (.dct kvs)) : ∀ G own H v, Rep K G own H S → VR K G v (.mu p) → tyV K "dict" v H := fun G own H v R vr => by
  obtain ⟨u, hu, vs, rfl, rv⟩ := R.look hS trivial
  cases vr
  exact .inr (.inr (.inl ⟨rfl, .inl ⟨_, hu⟩⟩))
theorem tyS_I {x : Str} : ∀ G own H v, Rep K G own H S → VR K G v (.im (.str x)) → tyV K "str" v H := fun G own H v R vr => by
  cases vr; exact rfl
theorem m_app {p : Addr} {ms : List MV} {m : MV} (hS : S p = some (.lst ms)) (hl : ms.length ≤ 1000000) (h : Q (.im .non) (mup S p (.lst (ms ++ [m])))) : EvM K G0 "list" rAppend (.mu p) [m] S Q := fun G own H v vs R _ Rp vr vrs cv => by
  obtain ⟨u, hu, us, rfl, rv⟩ := Rp.look hS trivial
  cases vr
  cases vrs with
  | cons h1 h2 =>
    cases h2
    exact ⟨p, us, _, rfl, rfl, hu, by rw [Paired.length rv, sizeLine_eq]; omega, cv _ _ G own _ _ Ext.rfl' (Rp.write hS (fr_lst (Paired.app rv (.cons h1 .nil)))) vr_non h⟩
theorem m_insertL {p : Addr} {ms : List MV} {m : MV} {i : Int} (hS : S p = some (.lst ms)) (hl : ms.length ≤ 1000000) (hi : 0 ≤ i) (hi2 : i ≤ 1000000) (h : Q (.im .non) (mup S p (.lst (ms.take i.toNat ++ [m] ++ ms.drop i.toNat)))) : EvM K G0 "list" r_insert (.mu p) [.im (.int i), m] S Q := fun G own H v vs R _ Rp vr vrs cv => by
  obtain ⟨u, hu, us, rfl, rv⟩ := Rp.look hS trivial
  cases vr
  cases vrs with
  | cons h0 h2 => cases h2 with
    | cons h1 h2 =>
      cases h2; cases h0
      exact ⟨p, us, i, _, rfl, rfl, hu, by rw [Paired.length rv, sizeLine_eq]; omega, hi, by omega, cv _ _ G own _ _ Ext.rfl' (Rp.write hS (fr_lst (Paired.app (Paired.app (Paired.takeP _ rv) (.cons h1 .nil)) (Paired.dropP _ rv)))) vr_non h⟩
theorem m_findS {x y : Str} (h : Q (.im (.int (Txt.find x y))) S) : EvM K G0 "str" r_find (.im (.str x)) [.im (.str y)] S Q := fun G own H v vs R _ Rp vr vrs cv => by
  cases vr
  cases vrs with
  | cons h1 h2 =>
    cases h2; cases h1
    exact ⟨x, y, rfl, rfl, cv _ H G own _ S Ext.rfl' Rp (vr_int _) h⟩
def bls (bs : List Bool) : List D := bs.map D.bl
theorem bls_v {G : Hp} : ∀ {bs : List Bool} {vs : List V}, ImA K G vs (bls bs) → vs = bs.map V.bl
  | [], _, .nil => rfl
  | _ :: _, _, .cons h t => by cases h; rw [bls_v t]; rfl
theorem m_countB {bs : List Bool} (h : Q (.im (.int (bs.count true : Nat))) S) : EvM K G0 "list" (r_count K) (.im (.lst (bls bs))) [.im (.bl true)] S Q := fun G own H v vs R _ Rp vr vrs cv => by
  cases vr with
  | lst ha hs =>
    cases vrs with
    | cons h1 h2 =>
      cases h2; cases h1
      have := bls_v hs
      subst this
      exact ⟨_, bs, rfl, rfl, SqL.of (Rp.e _ _ ha), cv _ H G own _ S Ext.rfl' Rp (vr_int _) h⟩
theorem m_catI {xs ys : List D} (hl : xs.length + ys.length ≤ 1000000) (h : Q (.im (.lst (xs ++ ys))) S) : EvR K G0 rCat (.im (.lst xs)) (.im (.lst ys)) S Q := fun G own H v u R _ Rp vr vu cv => by
  cases vr with
  | lst h1 h2 => cases vu with
    | lst h3 h4 =>
      refine ⟨_, _, _, _, rfl, rfl, Rp.e _ _ h1, Rp.e _ _ h3, by rw [h2.length, h4.length, sizeLine_eq]; omega, new_lstI Rp ?_ cv h⟩
      have := Paired.app h2.vrs h4.vrs
      rw [← List.map_append] at this
      exact VRs.ims this
/-- a list, read: the items, data or a cell's -/
inductive LsM (S : MS) : MV → List MV → Prop
  | im (ds : List D) : LsM S (.im (.lst ds)) (ds.map .im)
  | mu {p : Addr} {ms : List MV} (h : S p = some (.lst ms)) : LsM S (.mu p) ms
theorem LsM.at_ {G : Hp} {own : Addr → Option Addr} {H : Hp} {v : V} {m : MV} {ms : List MV} (h : LsM S m ms) (R : Rep K G own H S) (vr : VR K G v m) : ∃ p vs, v = .ref p ∧ H p = some (.lst vs) ∧ VRs K G vs ms := by
  cases h with
  | im ds => cases vr with
    | lst h1 h2 => exact ⟨_, _, rfl, R.e _ _ h1, h2.vrs⟩
  | mu h =>
    obtain ⟨u, hu, vs, rfl, rv⟩ := R.look h trivial
    cases vr
    exact ⟨_, _, rfl, hu, rv⟩
theorem m_catX {x y : MV} {xs ys : List MV} (h1 : LsM S x xs) (h2 : LsM S y ys) (hl : xs.length + ys.length ≤ 1000000) (h : ∀ p, S p = none → Q (.mu p) (mup S p (.lst (xs ++ ys)))) : EvR K G0 rCat x y S Q := fun G own H v u R _ Rp vr vu cv => by
  obtain ⟨p, vs, rfl, hp, rv⟩ := h1.at_ Rp vr
  obtain ⟨q, us, rfl, hq, ru⟩ := h2.at_ Rp vu
  exact ⟨p, q, vs, us, rfl, rfl, hp, hq, by rw [Paired.length rv, Paired.length ru, sizeLine_eq]; omega, new_lst Rp (Paired.app rv ru) cv h⟩
theorem m_catXI {x y : MV} {xs ys : List D} (h1 : LsM S x (xs.map .im)) (h2 : LsM S y (ys.map .im)) (hl : xs.length + ys.length ≤ 1000000) (h : Q (.im (.lst (xs ++ ys))) S) : EvR K G0 rCat x y S Q := fun G own H v u R _ Rp vr vu cv => by
  obtain ⟨p, vs, rfl, hp, rv⟩ := h1.at_ Rp vr
  obtain ⟨q, us, rfl, hq, ru⟩ := h2.at_ Rp vu
  refine ⟨p, q, vs, us, rfl, rfl, hp, hq, by rw [Paired.length rv, Paired.length ru, List.length_map, List.length_map, sizeLine_eq]; omega, new_lstI Rp ?_ cv h⟩
  have := Paired.app rv ru
  rw [← List.map_append] at this
  exact VRs.ims this
theorem m_nilX {x : MV} {xs : List MV} (h1 : LsM S x xs) (h : Q (.im (.bl xs.isEmpty)) S) : EvR K G0 (r_nil K) x (.im (.lst [])) S Q := fun G own H v u R _ Rp vr vu cv => by
  obtain ⟨p, vs, rfl, hp, rv⟩ := h1.at_ Rp vr
  cases vu with
  | lst h3 h4 =>
    cases h4
    refine ⟨_, _, vs, rfl, rfl, SqL.of hp, Rp.e _ _ h3, ?_⟩
    have : vs.isEmpty = xs.isEmpty := by have := Paired.length rv; cases vs <;> cases xs <;> simp_all
    rw [this]
    exact cv _ H G own _ S Ext.rfl' Rp (vr_bl _) h
theorem m_nnilX {x : MV} {xs : List MV} (h1 : LsM S x xs) (h : Q (.im (.bl (!xs.isEmpty))) S) : EvR K G0 (r_nnil K) x (.im (.lst [])) S Q := fun G own H v u R _ Rp vr vu cv => by
  obtain ⟨p, vs, rfl, hp, rv⟩ := h1.at_ Rp vr
  cases vu with
  | lst h3 h4 =>
    cases h4
    refine ⟨_, _, vs, rfl, rfl, SqL.of hp, Rp.e _ _ h3, ?_⟩
    have : vs.isEmpty = xs.isEmpty := by have := Paired.length rv; cases vs <;> cases xs <;> simp_all
    rw [this]
    exact cv _ H G own _ S Ext.rfl' Rp (vr_bl _) h
theorem m_setL {p : Addr} {ms : List MV} {m : MV} {i : Int} {j : Nat} {P : Env → MS → Prop} (hS : S p = some (.lst ms)) (hj : ixN ms.length i = some j) (h : P E (mup S p (.lst (ms.set j m)))) {to ti : TE} (h1 : EvE K G0 to E S fun x S1 => x = .mu p ∧ EvE K G0 ti E S1 fun y S2 => y = .im (.int i) ∧ S2 = S) : EvG K G0 (gSub to ti rSetL) m E S P := fun G own H σ v R e Rp r vr cs => by
  refine h1 G own H σ _ e Rp r fun v1 H' G' own' m1 S' e' R' vr1 q => ?_
  obtain ⟨rfl, q⟩ := q
  refine q G' own' H' σ _ (e.trans e') R' (r.ext e') fun v2 H2 G2 own2 m2 S2 e2 R2 vr2 q2 => ?_
  obtain ⟨rfl, rfl⟩ := q2
  obtain ⟨u, hu, us, rfl, rv⟩ := R2.look hS trivial
  cases vr1; cases vr2
  exact ⟨p, us, i, j, rfl, rfl, hu, by rw [Paired.length rv]; exact hj, cs _ _ G2 own2 E _ (e'.trans e2) (R2.write hS (fr_lst (Paired.setP ((vr.ext e').ext e2) j rv))) ((r.ext e').ext e2) h⟩
/-! ### dicts by text keys -/
def valM (kvs : List (Key × MV)) (k : Key) : Option MV := (kvs.find? fun kv => decide (kv.1 = k)).map (·.2)
def putM (kvs : List (Key × MV)) (k : Key) (v : MV) : List (Key × MV) :=
  if (kvs.any fun kv => decide (kv.1 = k)) = true then kvs.map (fun kv => if kv.1 = k then (kv.1, v) else kv) else kvs ++ [(k, v)]
def mergeM (kvs more : List (Key × MV)) : List (Key × MV) := more.foldl (fun acc kv => putM acc kv.1 kv.2) kvs
theorem KVR.val {G : Hp} {us : List (Key × V)} {kvs : List (Key × MV)} (h : KVR K G us kvs) (k : Key) : match valM kvs k with | some m => ∃ v, valV us k = some v ∧ VR K G v m | none => valV us k = none := by
  induction h with
  | nil => exact rfl
  | @cons a b l r f t ih =>
    by_cases e : b.1 = k
    · have e1 : a.1 = k := f.1.trans e
      have h1 : valM (b :: r) k = some b.2 := by simp [valM, List.find?_cons, e]
      rw [h1]
      exact ⟨a.2, valV_pos e1, f.2⟩
    · have e1 : ¬ a.1 = k := fun z => e (f.1.symm.trans z)
      have h1 : valM (b :: r) k = valM r k := by simp [valM, List.find?_cons, e]
      rw [h1, valV_neg e1]
      exact ih
theorem KVR.any {G : Hp} {us : List (Key × V)} {kvs : List (Key × MV)} (h : KVR K G us kvs) (k : Key) : (us.any fun kv => decide (kv.1 = k)) = (kvs.any fun kv => decide (kv.1 = k)) := by
  induction h with
  | nil => rfl
  | cons f t ih => simp only [List.any_cons, ih, f.1]
theorem KVR.mapSet {G : Hp} {us : List (Key × V)} {kvs : List (Key × MV)} {v : V} {m : MV} (h : KVR K G us kvs) (k : Key) (r : VR K G v m) : KVR K G (us.map fun kv => if kv.1 = k then (kv.1, v) else kv) (kvs.map fun kv => if kv.1 = k then (kv.1, m) else kv) := by
  induction h with
  | nil => exact .nil
  | @cons a b l r' f t ih =>
    refine .cons ?_ ih
    by_cases e : b.1 = k
    · have e1 : a.1 = k := f.1.trans e
      dsimp only; rw [if_pos e, if_pos e1]; exact ⟨f.1, r⟩
    · have e1 : ¬ a.1 = k := fun z => e (f.1.symm.trans z)
      dsimp only; rw [if_neg e, if_neg e1]; exact f
theorem KVR.put {G : Hp} {us : List (Key × V)} {kvs : List (Key × MV)} {v : V} {m : MV} (h : KVR K G us kvs) (k : Key) (r : VR K G v m) : KVR K G (putK us k v) (putM kvs k m) := by
  unfold putK putM
  rw [h.any k]
  split
  · exact h.mapSet k r
  · exact Paired.app h (.cons ⟨rfl, r⟩ .nil)
end
end Kr
namespace Kr
open PySem PySem.Spec L2
/-! ### what may become of a value and a state with no step -/
def Go (K : PySem.W.Frag) (m : MV) (S : MS) (m' : MV) (S' : MS) : Prop := ∀ G own H v, Rep K G own H S → VR K G v m → ∃ G' own', Ext G G' ∧ Rep K G' own' H S' ∧ VR K G' v m'
def Up (K : PySem.W.Frag) (Q : MV → MS → Prop) : MV → MS → Prop := fun m S => ∃ m' S', Go K m S m' S' ∧ Q m' S'
def UpX (K : PySem.W.Frag) (X : Value → MS → Prop) : Value → MS → Prop := fun c S => ∃ S', Go K (.im .non) S (.im .non) S' ∧ X c S'
section
variable {K : PySem.W.Frag} {G0 : Hp} {E : Env} {S S1 S2 : MS} {m m1 m2 : MV} {a : Addr} {Q : MV → MS → Prop} {N : ME} {te : TE} {ts : TS}
theorem Go.rfl' : Go K m S m S := fun G own H v R r => ⟨G, own, Ext.rfl', R, r⟩
theorem Go.trans (h : Go K m S m1 S1) (g : Go K m1 S1 m2 S2) : Go K m S m2 S2 := fun G own H v R r => by
  obtain ⟨G1, own1, e1, R1, r1⟩ := h G own H v R r
  obtain ⟨G2, own2, e2, R2, r2⟩ := g G1 own1 H v R1 r1
  exact ⟨G2, own2, e1.trans e2, R2, r2⟩
theorem go_sub (h : Sub S' S) : Go K m S m S' := fun G own H v R r => ⟨G, own, Ext.rfl', R.sub h, r⟩
theorem go_frzL {ds : List D} (h : S a = some (.lst (ds.map .im))) : Go K (.mu a) S (.im (.lst ds)) (mer S a) := fun G own H v R r => by
  obtain ⟨G', own', e, R', i⟩ := R.freezeL h
  cases r
  exact ⟨G', own', e, R', i⟩
theorem go_frzT {ds : List D} (h : S a = some (.tup (ds.map .im))) : Go K (.mu a) S (.im (.tup ds)) (mer S a) := fun G own H v R r => by
  obtain ⟨G', own', e, R', i⟩ := R.freezeT h
  cases r
  exact ⟨G', own', e, R', i⟩
theorem go_close {s C dx : Addr} {fs : List (Str × MV)} {nm : List Str} {Φ : Addr → MS → Prop} (dj : Dj (mer S s) S1) (hΦ : Φ s S1) (h1 : S1 s = some (.ins C dx fs)) (hn : fs.map (·.1) = nm) : Go K m (ov (mer S s) S1) m (mup S s (absO C nm Φ)) := fun G own H v R r => by
  obtain ⟨own', R'⟩ := R.closed dj hΦ h1 hn
  exact ⟨G, own', Ext.rfl', R', r⟩
theorem Go.toX (h : Go K m S m S1) : ∀ {v : V}, (∀ G own H, Rep K G own H S → VR K G v m) → Go K (.im .non) S (.im .non) S1 := fun {v} hv G own H u R r => by
  obtain ⟨G1, own1, e1, R1, r1⟩ := h G own H v R (hv G own H R)
  cases r
  exact ⟨G1, own1, e1, R1, .non⟩
theorem up (h : Q m S) : Up K Q m S := ⟨m, S, Go.rfl', h⟩
theorem up_go (g : Go K m S m1 S1) (h : Up K Q m1 S1) : Up K Q m S := by
  obtain ⟨m2, S2, g2, q⟩ := h
  exact ⟨m2, S2, g.trans g2, q⟩
theorem up_sub (g : Sub S1 S) (h : Up K Q m S1) : Up K Q m S := up_go (go_sub g) h
theorem upX {X : Value → MS → Prop} {c : Value} (h : X c S) : UpX K X c S := ⟨S, Go.rfl', h⟩
theorem upX_go {X : Value → MS → Prop} {c : Value} (g : Go K (.im .non) S (.im .non) S1) (h : UpX K X c S1) : UpX K X c S := by
  obtain ⟨S2, g2, q⟩ := h
  exact ⟨S2, g.trans g2, q⟩
theorem CV.up {G : Hp} {R : VK} (h : CV K G Q R) : CV K G (Up K Q) R := fun v H' G' own' m S' e R' r q => by
  obtain ⟨m2, S2, g, q⟩ := q
  obtain ⟨G2, own2, e2, R2, r2⟩ := g G' own' H' v R' r
  exact h v H' G2 own2 m2 S2 (e.trans e2) R2 r2 q
theorem CX.up {G : Hp} {X : Value → MS → Prop} {R : XK} (h : CX K G X R) : CX K G (UpX K X) R := fun c H' G' own' S' e R' q => by
  obtain ⟨S2, g, q⟩ := q
  obtain ⟨G2, own2, e2, R2, r2⟩ := g G' own' H' .non R' .non
  exact h c H' G2 own2 S2 (e.trans e2) R2 q
theorem cx0 : CX K G0 (fun _ _ => False) E0 := fun _ _ _ _ _ _ _ h => h.elim
theorem e_up (h : EvE K G0 te E S (Up K Q)) : EvE K G0 te E S Q := fun G own H σ R e Rp r cv => h G own H σ R e Rp r cv.up
theorem EvE.mono {Q' : MV → MS → Prop} (h : EvE K G0 te E S Q) (f : ∀ m S, Q m S → Q' m S) : EvE K G0 te E S Q' := fun G own H σ R e Rp r cv => h G own H σ R e Rp r fun v H' G' own' m S' e' R' vr q => cv v H' G' own' m S' e' R' vr (f m S' q)
theorem EvT.mono {tt : TT} {P P' : Bool → MS → Prop} (h : EvT K G0 tt E S P) (f : ∀ m S, P m S → P' m S) : EvT K G0 tt E S P' := fun G own H σ R e Rp r cv => h G own H σ R e Rp r fun v H' G' own' S' e' R' q => cv v H' G' own' S' e' R' (f v S' q)
theorem EvS.mono {N' : ME} (h : EvS K G0 ts E S N) (f1 : ∀ E S, N.nx E S → N'.nx E S) (f2 : ∀ m S, N.rt m S → N'.rt m S) (f3 : ∀ E S, N.bk E S → N'.bk E S) (f4 : ∀ E S, N.ct E S → N'.ct E S) : EvS K G0 ts E S N' := fun G own H σ D e Rp r n1 n2 n3 n4 =>
  h G own H σ D e Rp r (fun σ' H' G' own' E' S' e' R' r' q => n1 σ' H' G' own' E' S' e' R' r' (f1 _ _ q)) (fun v H' G' own' m S' e' R' vr q => n2 v H' G' own' m S' e' R' vr (f2 _ _ q)) (fun σ' H' G' own' E' S' e' R' r' q => n3 σ' H' G' own' E' S' e' R' r' (f3 _ _ q)) (fun σ' H' G' own' E' S' e' R' r' q => n4 σ' H' G' own' E' S' e' R' r' (f4 _ _ q))
theorem EvS.base {G1 : Hp} (h : EvS K G0 ts E S N) (e0 : Ext G0 G1) : EvS K G1 ts E S N := fun G own H σ D e => h G own H σ D (e0.trans e)
theorem EvE.base {G1 : Hp} (h : EvE K G0 te E S Q) (e0 : Ext G0 G1) : EvE K G1 te E S Q := fun G own H σ D e => h G own H σ D (e0.trans e)
theorem s_sub (h : Sub S1 S) (q : EvS K G0 ts E S1 N) : EvS K G0 ts E S N := fun G own H σ D e Rp r n1 n2 n3 n4 => q G own H σ D e (Rp.sub h) r n1 n2 n3 n4
/-- some names are forgotten -/
theorem s_env {E' : Env} (hl : E'.length = E.length) (h : ∀ (i : Nat) (m : MV), E'[i]? = some (some m) → E[i]? = some (some m)) (q : EvS K G0 ts E' S N) : EvS K G0 ts E S N := fun G own H σ D e Rp r n1 n2 n3 n4 => by
  refine q G own H σ D e Rp ?_ n1 n2 n3 n4
  clear q n1 n2 n3 n4
  induction r generalizing E' with
  | nil => cases E' with
    | nil => exact .nil
    | cons => cases hl
  | @cons o m l r f t ih =>
    cases E' with
    | nil => cases hl
    | cons x xs =>
      refine .cons ?_ (ih (by simpa using hl) fun i m' hm => by simpa using h (i + 1) m' (by simpa using hm))
      cases x with
      | none => exact trivial
      | some x =>
        have := h 0 x rfl
        simp at this
        subst this
        exact f
/-- the cell of a name is changed no more -/
theorem s_frzL {i : Nat} {ds : List D} (hE : E[i]? = some (some (.mu a))) (h : S a = some (.lst (ds.map .im))) (q : EvS K G0 ts (E.set i (some (.im (.lst ds)))) (mer S a) N) : EvS K G0 ts E S N := fun G own H σ D e Rp r n1 n2 n3 n4 => by
  obtain ⟨G', own', e', R', im⟩ := Rp.freezeL h
  obtain ⟨o, ho, v, rfl, hv⟩ := Paired.get r hE
  cases hv
  have r2 := (r.ext e').set i (v := .ref a) (m := .im (.lst ds)) im
  have : σ.set i (some (.ref a)) = σ := by
    apply List.ext_getElem?
    intro j
    by_cases z : i = j
    · subst z; rw [ho, List.getElem?_set_self (List.getElem?_eq_some_iff.mp ho).1]
    · rw [List.getElem?_set_ne z]
  rw [this] at r2
  exact q G' own' H σ D (e.trans e') R' r2 (n1.ext e') (n2.ext e') (n3.ext e') (n4.ext e')
theorem s_open {s C : Addr} {nm : List Str} {Φ : Addr → MS → Prop} (h : S s = some (absO C nm Φ)) (q : ∀ S1, Φ s S1 → Dj (mer S s) S1 → EvS K G0 ts E (ov (mer S s) S1) N) : EvS K G0 ts E S N := fun G own H σ D e Rp r n1 n2 n3 n4 => by
  obtain ⟨own', S1, hΦ, dj, R'⟩ := Rp.opened h
  exact q S1 hΦ dj G own' H σ D e R' r n1 n2 n3 n4
/-! ### calls -/
abbrev Mp := List MV → MS → (MV → MS → Prop) → (Value → MS → Prop) → Prop
def lift (K : PySem.W.Frag) (mp : Mp) : Sp := fun vs H Q E => ∃ G own S ms mQ mX, Rep K G own H S ∧ VRs K G vs ms ∧ CV K G mQ Q ∧ CX K G mX E ∧ mp ms S mQ mX
theorem lift_len {mp : Mp} {n : Nat} {vs : List V} {H : Hp} {Q : VK} {Ex : XK} (hn : ∀ ms S mQ mX, mp ms S mQ mX → ms.length = n) (h : lift K mp vs H Q Ex) : vs.length = n := by
  obtain ⟨G, own, S, ms, mQ, mX, R, r, _, _, h⟩ := h
  rw [Paired.length r]; exact hn _ _ _ _ h
theorem m_call {mp : Mp} {Ex : XK} {tr : TA} {X : Value → MS → Prop} (hX : CX K G0 X Ex) (h : EvA K G0 tr E S fun ms S1 => mp ms S1 Q X) : EvE K G0 (tCall (lift K mp) [] Ex tr) E S Q := fun G own H σ R e Rp r cv =>
  h G own H σ _ e Rp r fun v H' G' own' ms S' e' R' vr q => ⟨G', own', S', ms, Q, X, R', by rw [List.append_nil]; exact vr, cv.ext e', hX.ext (e.trans e'), q⟩
theorem m_call0 {mp : Mp} {tr : TA} (h : EvA K G0 tr E S fun ms S1 => mp ms S1 Q fun _ _ => False) : EvE K G0 (tCall (lift K mp) [] E0 tr) E S Q := m_call cx0 h
theorem m_callS {mp : Mp} {W : WX} {tr : TA} {X : Value → Env → MS → Prop} (hX : CW K G0 X W) (h : EvA K G0 tr E S fun ms S1 => mp ms S1 Q fun c S2 => X c E S2) : EvE K G0 (tCallS (lift K mp) (WE W) tr) E S Q := fun G own H σ R e Rp r cv =>
  h G own H σ _ e Rp r fun v H' G' own' ms S' e' R' vr q => ⟨G', own', S', ms, Q, _, R', vr, cv.ext e', fun c H2 G2 own2 S2 e2 R2 x => hX c σ H2 G2 own2 E S2 ((e.trans e').trans e2) R2 ((r.ext e').ext e2) x, q⟩
/-- an instance of C that has no field m -/
inductive InsM (S : MS) (a C : Addr) (m : Str) : Prop where
  | ins {dx : Addr} {fs : List (Str × MV)} (h : S a = some (.ins C dx fs)) (hm : m ∉ fs.map (·.1)) : InsM S a C m
  | abs {nm : List Str} {p : PySem.W.Frag → Addr → Hp → Hp → Prop} (h : S a = some (.abs C nm p)) (hm : m ∉ nm) : InsM S a C m
theorem FsR.names {G : Hp} {l : List (Str × V)} {r : List (Str × MV)} (h : FsR K G l r) : l.map (·.1) = r.map (·.1) := by
  induction h with
  | nil => rfl
  | cons f _ ih => simp only [List.map_cons, ih, f.1]
theorem lookup_none {β : Type} {f : Str} : ∀ {l : List (Str × β)}, f ∉ l.map (·.1) → l.lookup f = none
  | [], _ => rfl
  | (g, x) :: l, h => by
    simp only [List.map_cons, List.mem_cons, not_or] at h
    have : (f == g) = false := by simpa using h.1
    rw [List.lookup_cons, this]
    exact lookup_none h.2
theorem InsM.at_ {G : Hp} {own : Addr → Option Addr} {H : Hp} {C : Addr} {f : Str} (h : InsM S a C f) (R : Rep K G own H S) : ∃ dx fs, H a = some (.ins C dx fs) ∧ fs.lookup f = none := by
  cases h with
  | ins h hm =>
    obtain ⟨u, hu, us, rfl, ru⟩ := R.look h trivial
    exact ⟨_, us, hu, lookup_none (by rw [ru.names]; exact hm)⟩
  | abs h hm =>
    rcases (R.r.cel a _ h).2 with ⟨u, _, f⟩ | ⟨C, nm, p, e, _, _, _, _, _, dx, fs, h4, h5⟩
    · exact f.elim
    · cases e
      exact ⟨dx, fs, h4, lookup_none (by rw [h5]; exact hm)⟩
theorem m_meth {mp : Mp} {C : Addr} {f : Str} {Ex : XK} {ta : TE} {tr : TA} {X : Value → MS → Prop} (hX : CX K G0 X Ex) (h : EvE K G0 ta E S fun x S1 => ∃ a, x = .mu a ∧ InsM S1 a C f ∧ EvA K G0 tr E S1 fun ms S2 => mp (.mu a :: ms) S2 Q X) : EvE K G0 (tMeth C f (lift K mp) [] Ex ta tr) E S Q := fun G own H σ R e Rp r cv =>
  h G own H σ _ e Rp r fun v H' G' own' m S' e' R' vr q => by
    obtain ⟨a, rfl, hi, q⟩ := q
    cases vr
    obtain ⟨dx, fs, h1, h2⟩ := hi.at_ R'
    exact ⟨a, dx, fs, rfl, h1, h2, q G' own' H' σ _ (e.trans e') R' (r.ext e') fun v2 H2 G2 own2 m2 S2 e2 R2 vr2 q2 => ⟨G2, own2, S2, .mu a :: m2, Q, X, R2, by rw [List.append_nil]; exact .cons (vr_mu a) vr2, cv.ext (e'.trans e2), hX.ext ((e.trans e').trans e2), q2⟩⟩
theorem m_meth0 {mp : Mp} {C : Addr} {f : Str} {ta : TE} {tr : TA} (h : EvE K G0 ta E S fun x S1 => ∃ a, x = .mu a ∧ InsM S1 a C f ∧ EvA K G0 tr E S1 fun ms S2 => mp (.mu a :: ms) S2 Q fun _ _ => False) : EvE K G0 (tMeth C f (lift K mp) [] E0 ta tr) E S Q := m_meth cx0 h
theorem m_methS {mp : Mp} {C : Addr} {f : Str} {W : WX} {ta : TE} {tr : TA} {X : Value → Env → MS → Prop} (hX : CW K G0 X W) (h : EvE K G0 ta E S fun x S1 => ∃ a, x = .mu a ∧ InsM S1 a C f ∧ EvA K G0 tr E S1 fun ms S2 => mp (.mu a :: ms) S2 Q fun c S3 => X c E S3) : EvE K G0 (Kr.tMethS C f (lift K mp) (WE W) ta tr) E S Q := fun G own H σ R e Rp r cv =>
  h G own H σ _ e Rp r fun v H' G' own' m S' e' R' vr q => by
    obtain ⟨a, rfl, hi, q⟩ := q
    cases vr
    obtain ⟨dx, fs, h1, h2⟩ := hi.at_ R'
    exact ⟨a, dx, fs, rfl, h1, h2, q G' own' H' σ _ (e.trans e') R' (r.ext e') fun v2 H2 G2 own2 m2 S2 e2 R2 vr2 q2 => ⟨G2, own2, S2, .mu a :: m2, Q, _, R2, .cons (vr_mu a) vr2, cv.ext (e'.trans e2), fun c H3 G3 own3 S3 e3 R3 x => hX c σ H3 G3 own3 E S3 (((e.trans e').trans e2).trans e3) R3 (((r.ext e').ext e2).ext e3) x, q2⟩⟩
theorem m_make {mp : Mp} {C : Addr} {Ex : XK} {tr : TA} {X : Value → MS → Prop} (hX : CX K G0 X Ex) (h : EvA K G0 tr E S fun ms S1 => ∀ x dx, S1 x = none → mp (.mu x :: ms) (mup S1 x (.ins C dx [])) (fun m S2 => m = .im .non ∧ Q (.mu x) S2) X) : EvE K G0 (tMake C (lift K mp) [] Ex tr) E S Q := fun G own H σ R e Rp r cv =>
  h G own H σ _ e Rp r fun v H' G' own' ms S' e' R' vr q x dx hx hdx ne => by
    have R1 := R'.junk (u := .own x) hdx
    have hx1 : upd H' dx (.own x) x = none := by rw [upd_ne (Ne.symm ne)]; exact hx
    have fr : FR K G' (.ins C dx []) (.ins C dx []) := ⟨[], rfl, .nil⟩
    have R2 := R1.cell hx1 fr
    refine ⟨G', _, _, .mu x :: ms, _, X, R2, by rw [List.append_nil]; exact .cons (vr_mu x) vr, fun v2 H2 G2 own2 m2 S2 e2 R2 vr2 q2 => ?_, hX.ext (e.trans e'), q x dx (R'.free hx)⟩
    obtain ⟨rfl, q2⟩ := q2
    cases vr2
    exact ⟨rfl, cv _ H2 G2 own2 (.mu x) S2 (e'.trans e2) R2 (vr_mu x) q2⟩
theorem VRs.start {G : Hp} {vs : List V} {ms : List MV} (r : VRs K G vs ms) (n : Nat) : ER K G (vs.map some ++ List.replicate n none) (ms.map some ++ List.replicate n none) := by
  induction r with
  | nil =>
    induction n with
    | zero => exact .nil
    | succ n ih => exact .cons trivial ih
  | cons f _ ih => exact .cons ⟨_, rfl, f⟩ ih
def startM (N : List Str) (ms : List MV) : Env := ms.map some ++ List.replicate (N.length - ms.length) none
/-- the ends of a body whose caller wants mQ -/
def bodyN (K : PySem.W.Frag) (mQ : MV → MS → Prop) : ME := ⟨fun _ S' => Up K mQ (.im .non) S', Up K mQ, fun _ _ => False, fun _ _ => False⟩
theorem rd_X {mp : Mp} {t : XK → TS} {L : List Str} {vs : List V} {H : Hp} {Q : VK} {Ex : XK} (hs : lift K mp vs H Q Ex) (h : ∀ G0 Ex ms S mQ mX, CX K G0 (UpX K mX) Ex → mp ms S mQ mX → EvS K G0 (t Ex) (startM L ms) S (bodyN K mQ)) :
    t Ex { nx := fun _ H' => Q .non H', rt := Q } (start L vs) H := by
  obtain ⟨G, own, S, ms, mQ, mX, R, r, cv, cx, q⟩ := hs
  have e : ER K G (L2.start L vs) (startM L ms) := by
    unfold L2.start startM
    rw [Paired.length r]; exact VRs.start r _
  exact h G Ex ms S mQ mX cx.up q G own H _ _ Ext.rfl' R e (fun σ' H' G' own' E' S' e' R' r' z => cv.up .non H' G' own' (.im .non) S' e' R' vr_non z) cv.up (fun _ _ _ _ _ _ _ _ _ z => z.elim) (fun _ _ _ _ _ _ _ _ _ z => z.elim)
theorem rd_N {mp : Mp} {t : TS} {L : List Str} {vs : List V} {H : Hp} {Q : VK} {Ex : XK} (hs : lift K mp vs H Q Ex) (h : ∀ G0 ms S mQ mX, mp ms S mQ mX → EvS K G0 t (startM L ms) S (bodyN K mQ)) :
    t { nx := fun _ H' => Q .non H', rt := Q } (start L vs) H := rd_X (t := fun _ => t) hs fun G0 Ex ms S mQ mX _ q => h G0 ms S mQ mX q
/-! ### fields -/
theorem FsR.look {G : Hp} {f : Str} {m : MV} {l : List (Str × V)} {r : List (Str × MV)} (h : FsR K G l r) : r.lookup f = some m → ∃ v, l.lookup f = some v ∧ VR K G v m := by
  induction h with
  | nil => intro e; cases e
  | @cons a b l r g t ih =>
    obtain ⟨g1, v⟩ := a
    obtain ⟨g2, m2⟩ := b
    obtain ⟨e1, e2⟩ := g
    dsimp only at e1 e2
    subst e1
    intro e
    rw [List.lookup_cons] at e ⊢
    split at e
    · cases e; exact ⟨v, rfl, e2⟩
    · exact ih e
def putFM (f : Str) (v : MV) : List (Str × MV) → List (Str × MV)
  | [] => [(f, v)]
  | (g, x) :: r => if g = f then (g, v) :: r else (g, x) :: putFM f v r
theorem FsR.put {G : Hp} {f : Str} {m : MV} {v : V} (hv : VR K G v m) {l : List (Str × V)} {r : List (Str × MV)} (h : FsR K G l r) : FsR K G (putF f v l) (putFM f m r) := by
  induction h with
  | nil => exact .cons ⟨rfl, hv⟩ .nil
  | @cons a b l r g t ih =>
    obtain ⟨g1, v⟩ := a
    obtain ⟨g2, m2⟩ := b
    obtain ⟨e1, e2⟩ := g
    dsimp only at e1 e2
    subst e1
    unfold putF putFM
    by_cases e : g1 = f
    · rw [if_pos e, if_pos e]; exact .cons ⟨rfl, hv⟩ t
    · rw [if_neg e, if_neg e]; exact .cons ⟨rfl, e2⟩ ih
theorem m_fld {ta : TE} {f : Str} (h : EvE K G0 ta E S fun x S1 => ∃ a C dx fs m, x = .mu a ∧ S1 a = some (.ins C dx fs) ∧ Cls K C ∧ NoAttr K C f ∧ fs.lookup f = some m ∧ Q m S1) : EvE K G0 (tFld K ta f) E S Q := fun G own H σ R e Rp r cv =>
  h G own H σ _ e Rp r fun v H' G' own' m S' e' R' vr q => by
    obtain ⟨a, C, dx, fs, m, rfl, h1, h2, h3, h4, q⟩ := q
    cases vr
    obtain ⟨u, hu, us, rfl, ru⟩ := R'.look h1 trivial
    obtain ⟨v, h5, h6⟩ := ru.look h4
    exact ⟨a, C, dx, us, v, rfl, hu, h2, h3, h5, cv v H' G' own' m S' e' R' h6 q⟩
theorem m_sfld {ta tv : TE} {f : Str} (h : EvE K G0 tv E S fun y S1 => EvE K G0 ta E S1 fun x S2 => ∃ a C dx fs, x = .mu a ∧ S2 a = some (.ins C dx fs) ∧ Cls K C ∧ NoAttr K C f ∧ fs.length < 1000 ∧ N.nx E (mup S2 a (.ins C dx (putFM f y fs)))) : EvS K G0 (sFld K ta tv f) E S N := fun G own H σ D e R r n1 n2 n3 n4 =>
  h G own H σ _ e R r fun v H' G' own' m S' e' R' vr q => q G' own' H' σ _ (e.trans e') R' (r.ext e') fun v2 H2 G2 own2 m2 S2 e2 R2 vr2 q2 => by
    obtain ⟨a, C, dx, fs, rfl, h1, h2, h3, h4, q⟩ := q2
    cases vr2
    obtain ⟨u, hu, us, rfl, ru⟩ := R2.look h1 trivial
    have fr : FR K G2 (.ins C dx (putFM f m fs)) (.ins C dx (putF f v us)) := ⟨_, rfl, ru.put (vr.ext e2)⟩
    exact ⟨a, C, dx, us, rfl, hu, h2, h3, by rw [Paired.length ru]; exact h4, n1 σ _ G2 own2 E _ (e'.trans e2) (R2.write h1 fr) ((r.ext e').ext e2) q⟩
/-! ### dicts -/
inductive DcM (S : MS) (a : Addr) (kvs : List (Key × MV)) : Prop where
  | d (h : S a = some (.dct kvs)) : DcM S a kvs
  | l {od : Obj} {u : HO} (h : S a = some (.lck od u kvs)) : DcM S a kvs
theorem DcM.at_ {G : Hp} {own : Addr → Option Addr} {H : Hp} {kvs : List (Key × MV)} (h : DcM S a kvs) (R : Rep K G own H S) : ∃ us, Rd H a (.dK us) ∧ KVR K G us kvs := by
  cases h with
  | d h => obtain ⟨u, hu, us, rfl, ru⟩ := R.look h trivial; exact ⟨us, .inl hu, ru⟩
  | l h => obtain ⟨u, hu, rfl, us, rfl, ru⟩ := R.look h trivial; exact ⟨us, .inr ⟨_, hu⟩, ru⟩
abbrev lkM (kvs : List (Key × MV)) (x : Str) : Option MV := valM kvs (.inr x)
theorem KVR.lk {G : Hp} {us : List (Key × V)} {kvs : List (Key × MV)} (h : KVR K G us kvs) (x : Str) : (∃ m v, lkM kvs x = some m ∧ valV us (.inr x) = some v ∧ VR K G v m) ∨ (lkM kvs x = none ∧ valV us (.inr x) = none) := by
  have := h.val (.inr x)
  cases e : valM kvs (.inr x) with
  | none => rw [e] at this; exact .inr ⟨e, this⟩
  | some m => rw [e] at this; obtain ⟨v, h1, h2⟩ := this; exact .inl ⟨m, v, e, h1, h2⟩
theorem m_dget {td ty : TE} (h : EvE K G0 td E S fun x S1 => EvE K G0 ty E S1 fun y S2 => ∃ a z kvs m, x = .mu a ∧ y = .im (.str z) ∧ DcM S2 a kvs ∧ lkM kvs z = some m ∧ Q m S2) : EvE K G0 (tDGet td ty) E S Q := fun G own H σ R e Rp r cv =>
  h G own H σ _ e Rp r fun v H' G' own' m S' e' R' vr q => q G' own' H' σ _ (e.trans e') R' (r.ext e') fun v2 H2 G2 own2 m2 S2 e2 R2 vr2 q2 => by
    obtain ⟨a, z, kvs, m, rfl, rfl, h1, h2, q⟩ := q2
    cases vr; cases vr2
    obtain ⟨us, h3, ru⟩ := h1.at_ R2
    rcases ru.lk z with ⟨m', w, h4, h5, h6⟩ | ⟨h4, _⟩
    · rw [h2] at h4; cases h4
      exact ⟨a, w, rfl, .inl ⟨us, .inr z, h3, rfl, h5.symm⟩, cv w H2 G2 own2 m S2 (e'.trans e2) R2 h6 q⟩
    · rw [h2] at h4; cases h4
theorem m_dget1 {td ty : TE} (h : EvE K G0 td E S fun x S1 => (∃ a kvs, x = .mu a ∧ DcM S1 a kvs) ∧ EvE K G0 ty E S1 fun y S2 => ∃ a z kvs, x = .mu a ∧ y = .im (.str z) ∧ DcM S2 a kvs ∧ Q ((lkM kvs z).getD (.im .non)) S2) : EvE K G0 (tDGet1 td ty) E S Q := fun G own H σ R e Rp r cv =>
  h G own H σ _ e Rp r fun v H' G' own' m S' e' R' vr ⟨⟨a, kvs, ea, hd⟩, q⟩ => by
    subst ea
    cases vr
    obtain ⟨us0, h0, _⟩ := hd.at_ R'
    refine ⟨a, rfl, .inl ⟨us0, h0⟩, q G' own' H' σ _ (e.trans e') R' (r.ext e') fun v2 H2 G2 own2 m2 S2 e2 R2 vr2 q2 => ?_⟩
    obtain ⟨a, z, kvs, ea, rfl, h1, q⟩ := q2
    cases ea; cases vr2
    obtain ⟨us, h3, ru⟩ := h1.at_ R2
    rcases ru.lk z with ⟨m', w, h4, h5, h6⟩ | ⟨h4, h5⟩
    · rw [h4] at q
      exact ⟨some w, .inl ⟨us, .inr z, h3, rfl, h5.symm⟩, cv w H2 G2 own2 m' S2 (e'.trans e2) R2 h6 q⟩
    · rw [h4] at q
      exact ⟨none, .inl ⟨us, .inr z, h3, rfl, h5.symm⟩, cv .non H2 G2 own2 _ S2 (e'.trans e2) R2 vr_non q⟩
theorem m_dget2 {td ty tx : TE} (h : EvE K G0 td E S fun x S1 => (∃ a kvs, x = .mu a ∧ DcM S1 a kvs) ∧ EvE K G0 ty E S1 fun y S2 => EvE K G0 tx E S2 fun w S3 => ∃ a z kvs, x = .mu a ∧ y = .im (.str z) ∧ DcM S3 a kvs ∧ Q ((lkM kvs z).getD w) S3) : EvE K G0 (tDGet2 td ty tx) E S Q := fun G own H σ R e Rp r cv =>
  h G own H σ _ e Rp r fun v H' G' own' m S' e' R' vr ⟨⟨a, kvs, ea, hd⟩, q⟩ => by
    subst ea
    cases vr
    obtain ⟨us0, h0, _⟩ := hd.at_ R'
    refine ⟨a, rfl, .inl ⟨us0, h0⟩, q G' own' H' σ _ (e.trans e') R' (r.ext e') fun v2 H2 G2 own2 m2 S2 e2 R2 vr2 q2 => q2 G2 own2 H2 σ _ ((e.trans e').trans e2) R2 ((r.ext e').ext e2) fun v3 H3 G3 own3 m3 S3 e3 R3 vr3 q3 => ?_⟩
    obtain ⟨a, z, kvs, ea, rfl, h1, q⟩ := q3
    cases ea; cases vr2
    obtain ⟨us, h3, ru⟩ := h1.at_ R3
    rcases ru.lk z with ⟨m', w, h4, h5, h6⟩ | ⟨h4, h5⟩
    · rw [h4] at q
      exact ⟨some w, .inl ⟨us, .inr z, h3, rfl, h5.symm⟩, cv w H3 G3 own3 m' S3 ((e'.trans e2).trans e3) R3 h6 q⟩
    · rw [h4] at q
      exact ⟨none, .inl ⟨us, .inr z, h3, rfl, h5.symm⟩, cv v3 H3 G3 own3 _ S3 ((e'.trans e2).trans e3) R3 vr3 q⟩
theorem m_din {td ty : TE} (h : EvE K G0 ty E S fun y S1 => EvE K G0 td E S1 fun x S2 => ∃ a z kvs, x = .mu a ∧ y = .im (.str z) ∧ DcM S2 a kvs ∧ Q (.im (.bl (lkM kvs z).isSome)) S2) : EvE K G0 (tDIn ty td) E S Q := fun G own H σ R e Rp r cv =>
  h G own H σ _ e Rp r fun v H' G' own' m S' e' R' vr q => q G' own' H' σ _ (e.trans e') R' (r.ext e') fun v2 H2 G2 own2 m2 S2 e2 R2 vr2 q2 => by
    obtain ⟨a, z, kvs, rfl, rfl, h1, q⟩ := q2
    cases vr; cases vr2
    obtain ⟨us, h3, ru⟩ := h1.at_ R2
    rcases ru.lk z with ⟨m', w, h4, h5, h6⟩ | ⟨h4, h5⟩
    · rw [h4] at q
      exact ⟨a, some w, rfl, .inl ⟨us, .inr z, h3, rfl, h5.symm⟩, cv _ H2 G2 own2 _ S2 (e'.trans e2) R2 (vr_bl _) q⟩
    · rw [h4] at q
      exact ⟨a, none, rfl, .inl ⟨us, .inr z, h3, rfl, h5.symm⟩, cv _ H2 G2 own2 _ S2 (e'.trans e2) R2 (vr_bl _) q⟩
theorem m_dni {td ty : TE} (h : EvE K G0 ty E S fun y S1 => EvE K G0 td E S1 fun x S2 => ∃ a z kvs, x = .mu a ∧ y = .im (.str z) ∧ DcM S2 a kvs ∧ Q (.im (.bl (!(lkM kvs z).isSome))) S2) : EvE K G0 (tDNotIn ty td) E S Q := fun G own H σ R e Rp r cv =>
  h G own H σ _ e Rp r fun v H' G' own' m S' e' R' vr q => q G' own' H' σ _ (e.trans e') R' (r.ext e') fun v2 H2 G2 own2 m2 S2 e2 R2 vr2 q2 => by
    obtain ⟨a, z, kvs, rfl, rfl, h1, q⟩ := q2
    cases vr; cases vr2
    obtain ⟨us, h3, ru⟩ := h1.at_ R2
    rcases ru.lk z with ⟨m', w, h4, h5, h6⟩ | ⟨h4, h5⟩
    · rw [h4] at q
      exact ⟨a, some w, rfl, .inl ⟨us, .inr z, h3, rfl, h5.symm⟩, cv _ H2 G2 own2 _ S2 (e'.trans e2) R2 (vr_bl _) q⟩
    · rw [h4] at q
      exact ⟨a, none, rfl, .inl ⟨us, .inr z, h3, rfl, h5.symm⟩, cv _ H2 G2 own2 _ S2 (e'.trans e2) R2 (vr_bl _) q⟩
theorem m_dput {td ty tv : TE} (h : EvE K G0 tv E S fun w S1 => EvE K G0 td E S1 fun x S2 => EvE K G0 ty E S2 fun y S3 => ∃ a z kvs, x = .mu a ∧ y = .im (.str z) ∧ S3 a = some (.dct kvs) ∧ kvs.length ≤ 1000000 ∧ N.nx E (mup S3 a (.dct (putM kvs (.inr z) w)))) : EvS K G0 (sDPut td ty tv) E S N := fun G own H σ D e R r n1 n2 n3 n4 =>
  h G own H σ _ e R r fun v H' G' own' m S' e' R' vr q => q G' own' H' σ _ (e.trans e') R' (r.ext e') fun v2 H2 G2 own2 m2 S2 e2 R2 vr2 q2 => q2 G2 own2 H2 σ _ ((e.trans e').trans e2) R2 ((r.ext e').ext e2) fun v3 H3 G3 own3 m3 S3 e3 R3 vr3 q3 => by
    obtain ⟨a, z, kvs, rfl, rfl, h1, hl, q⟩ := q3
    cases vr2; cases vr3
    obtain ⟨u, hu, us, rfl, ru⟩ := R3.look h1 trivial
    exact ⟨a, _, rfl, .inl ⟨us, .inr z, hu, rfl, by rw [Paired.length ru, sizeLine_eq]; omega, rfl⟩, n1 σ _ G3 own3 E _ ((e'.trans e2).trans e3) (R3.write h1 (fr_dct (ru.put (.inr z) ((vr.ext e2).ext e3)))) (((r.ext e').ext e2).ext e3) q⟩
def kD : Key → D
  | .inl i => .int i
  | .inr x => .str x
theorem kD_ok {G : Hp} (k : Key) : Im K G (kV k) (kD k) := by cases k <;> constructor
theorem KVR.keys {G : Hp} {us : List (Key × V)} {kvs : List (Key × MV)} (h : KVR K G us kvs) : us.map (·.1) = kvs.map (·.1) := by
  induction h with
  | nil => rfl
  | cons f _ ih => simp only [List.map_cons, ih, f.1]
theorem keys_ima {G : Hp} : ∀ {us : List (Key × V)} {kvs : List (Key × MV)}, KVR K G us kvs → ImA K G (us.map fun kv => kV kv.1) (kvs.map fun kv => kD kv.1)
  | _, _, .nil => .nil
  | _, _, .cons f t => .cons (by dsimp only; rw [f.1]; exact kD_ok _) (keys_ima t)
theorem m_lenD {kvs : List (Key × MV)} (hS : S a = some (.dct kvs)) (h : Q (.im (.int kvs.length)) S) : EvC K G0 c_lenD [.mu a] S Q := fun G own H v R _ Rp vr cv => by
  obtain ⟨u, hu, vs, rfl, rv⟩ := Rp.look hS trivial
  cases vr with
  | cons h1 h2 =>
    cases h2; cases h1
    exact ⟨a, vs, rfl, hu, by rw [Paired.length rv]; exact cv _ H G own _ S Ext.rfl' Rp (vr_int _) h⟩
theorem m_listD {kvs : List (Key × MV)} (hS : DcM S a kvs) (h : Q (.im (.lst (kvs.map fun kv => kD kv.1))) S) : EvC K G0 c_listD [.mu a] S Q := fun G own H v R _ Rp vr cv => by
  obtain ⟨us, hu, ru⟩ := hS.at_ Rp
  cases vr with
  | cons h1 h2 =>
    cases h2; cases h1
    exact ⟨a, us, rfl, hu, new_lstI Rp (keys_ima ru) cv h⟩
theorem m_dictD {kvs : List (Key × MV)} (hS : DcM S a kvs) (h : ∀ p, S p = none → Q (.mu p) (mup S p (.dct kvs))) : EvC K G0 c_dictD [.mu a] S Q := fun G own H v R _ Rp vr cv => by
  obtain ⟨us, hu, ru⟩ := hS.at_ Rp
  cases vr with
  | cons h1 h2 =>
    cases h2; cases h1
    exact ⟨a, us, rfl, hu, fun p hp => cv _ _ G _ (.mu p) _ Ext.rfl' (Rp.cell hp (fr_dct ru)) rfl (h p (Rp.free hp))⟩
theorem KVR.merge {G : Hp} {us : List (Key × V)} {more : List (Key × MV)} (h : KVR K G us more) : ∀ {us0 : List (Key × V)} {kvs : List (Key × MV)}, KVR K G us0 kvs → KVR K G (mergeK us0 us) (mergeM kvs more) := by
  unfold mergeK mergeM
  induction h with
  | nil => exact fun h => h
  | @cons x y l r f t ih =>
    intro us0 kvs h
    simp only [List.foldl_cons]
    refine ih ?_
    rw [f.1]
    exact h.put y.1 f.2
theorem m_updateD {b : Addr} {kvs more : List (Key × MV)} (hS : S a = some (.dct kvs)) (hb : DcM S b more) (ne : a ≠ b) (hl : kvs.length + more.length ≤ 1000000) (h : Q (.im .non) (mup S a (.dct (mergeM kvs more)))) : EvM K G0 "dict" r_update (.mu a) [.mu b] S Q := fun G own H v vs R _ Rp vr vrs cv => by
  obtain ⟨u, hu, us, rfl, rv⟩ := Rp.look hS trivial
  obtain ⟨ws, hw, rw'⟩ := hb.at_ Rp
  cases vr
  cases vrs with
  | cons h1 h2 =>
    cases h2; cases h1
    exact ⟨a, b, us, ws, rfl, rfl, ne, hu, hw, by rw [Paired.length rv, Paired.length rw', sizeLine_eq]; omega, cv _ _ G own _ _ Ext.rfl' (Rp.write hS (fr_dct (rw'.merge rv))) vr_non h⟩
/-! ### sorted -/
def dStrs (xs : List Str) : List D := xs.map D.str
theorem strs_ima {G : Hp} : ∀ xs : List Str, ImA K G (xs.map V.str) (dStrs xs)
  | [] => .nil
  | x :: xs => .cons (.str x) (strs_ima xs)
theorem strs_v {G : Hp} : ∀ {xs : List Str} {vs : List V}, ImA K G vs (dStrs xs) → vs = xs.map V.str
  | [], _, .nil => rfl
  | _ :: _, _, .cons h t => by cases h; rw [strs_v t]; rfl
def dInts (xs : List Int) : List D := xs.map D.int
theorem ints_v {G : Hp} : ∀ {xs : List Int} {vs : List V}, ImA K G vs (dInts xs) → vs = xs.map V.int
  | [], _, .nil => rfl
  | _ :: _, _, .cons h t => by cases h; rw [ints_v t]; rfl
theorem m_sortSet (h : EvE K G0 te E S fun x S1 => ∃ xs, x = .im (.lst (dStrs xs)) ∧ xs.length ≤ 4000 ∧ ∀ ys, SortedOf ys xs → Q (.im (.lst (dStrs ys))) S1) : EvE K G0 (tSortSet K te) E S Q := fun G own H σ R e Rp r cv =>
  h G own H σ _ e Rp r fun v H' G' own' m S' e' R' vr q => by
    obtain ⟨xs, rfl, hl, q⟩ := q
    cases vr with
    | lst h1 h2 =>
      have := strs_v h2
      subst this
      exact ⟨_, xs, rfl, SqL.of (R'.e _ _ h1), hl, fun ys p hy hp => cv _ _ _ own' (.im (.lst (dStrs ys))) S' (e'.trans (R'.laid hp).1) (R'.laid hp).2 (.lst upd_same ((strs_ima ys))) (q ys hy)⟩
theorem m_sortD {kvs : List (Key × MV)} {ks : List Str} (hS : DcM S a kvs) (hk : kvs.map (·.1) = ks.map Sum.inr) (h : ∀ ys : List Str, ys.Perm ks → PyProof.Rows.sortedS ys = true → Q (.im (.lst (dStrs ys))) S) : EvC K G0 c_sortedD [.mu a] S Q := fun G own H v R _ Rp vr cv => by
  obtain ⟨us, hu, ru⟩ := hS.at_ Rp
  cases vr with
  | cons h1 h2 =>
    cases h2; cases h1
    exact ⟨a, us, ks, rfl, hu, ru.keys.trans hk, fun ys p hy hs hp => cv _ _ _ own (.im (.lst (dStrs ys))) S (Rp.laid hp).1 (Rp.laid hp).2 (.lst upd_same (strs_ima ys)) (h ys hy hs)⟩
theorem m_sortI {x : MV} {ns : List Int} (h1 : LsM S x ((dInts ns).map .im)) (h : ∀ ys : List Int, ys.Perm ns → ys.Pairwise (· ≤ ·) → Q (.im (.lst (dInts ys))) S) : EvC K G0 (c_sortedI K) [x] S Q := fun G own H v R _ Rp vr cv => by
  cases vr with
  | cons h2 h3 =>
    cases h3
    obtain ⟨p, vs, rfl, hp, rv⟩ := h1.at_ Rp h2
    have := ints_v (VRs.ims rv)
    subst this
    exact ⟨p, ns, rfl, SqL.of hp, fun ys q hy hs hq => cv _ _ _ own (.im (.lst (dInts ys))) S (Rp.laid hq).1 (Rp.laid hq).2 (.lst upd_same (ints_ima ys)) (h ys hy hs)⟩
/-! ### locks -/
def lockN (a : Addr) (od : Obj) (u : HO) (kvs : List (Key × MV)) (N : ME) : ME := ⟨fun E' S' => S' a = some (.lck od u kvs) ∧ N.nx E' (mup S' a (.dct kvs)), fun m S' => S' a = some (.lck od u kvs) ∧ N.rt m (mup S' a (.dct kvs)), fun E' S' => S' a = some (.lck od u kvs) ∧ N.bk E' (mup S' a (.dct kvs)), fun E' S' => S' a = some (.lck od u kvs) ∧ N.ct E' (mup S' a (.dct kvs))⟩
theorem fr_lck {G : Hp} {od : Obj} {us : List (Key × V)} {kvs : List (Key × MV)} (h : KVR K G us kvs) : FR K G (.lck od (.dK us) kvs) (.frz od (.dK us)) := ⟨rfl, us, rfl, h⟩
theorem unlock {G : Hp} {own : Addr → Option Addr} {H : Hp} {od : Obj} {u : HO} {kvs : List (Key × MV)} (R : Rep K G own H S) (h : S a = some (.lck od u kvs)) : H a = some (.frz od u) ∧ Rep K G own (upd H a u) (mup S a (.dct kvs)) := by
  obtain ⟨x, hx, rfl, us, rfl, ru⟩ := R.look h trivial
  exact ⟨hx, R.write h (fr_dct ru)⟩
theorem m_lock {kvs : List (Key × MV)} (hS : S a = some (.dct kvs)) (h : ∀ od u, EvS K G0 ts E (mup S a (.lck od u kvs)) (lockN a od u kvs N)) : EvS K G0 (tLock ts) E S N := fun G own H σ D e R r n1 n2 n3 n4 => by
  obtain ⟨u, hu, us, rfl, ru⟩ := R.look hS trivial
  refine ⟨a, .dK us, hu, trivial, fun od => h od (.dK us) G own _ σ _ e (R.write hS (fr_lck ru)) r ?_ ?_ ?_ ?_⟩
  · exact fun σ' H' G' own' E' S' e' R' r' q => ⟨(unlock R' q.1).1, n1 σ' _ G' own' E' _ e' (unlock R' q.1).2 r' q.2⟩
  · exact fun v H' G' own' m S' e' R' vr q => ⟨(unlock R' q.1).1, n2 v _ G' own' m _ e' (unlock R' q.1).2 vr q.2⟩
  · exact fun σ' H' G' own' E' S' e' R' r' q => ⟨(unlock R' q.1).1, n3 σ' _ G' own' E' _ e' (unlock R' q.1).2 r' q.2⟩
  · exact fun σ' H' G' own' E' S' e' R' r' q => ⟨(unlock R' q.1).1, n4 σ' _ G' own' E' _ e' (unlock R' q.1).2 r' q.2⟩
theorem m_lockE {kvs : List (Key × MV)} (hS : S a = some (.dct kvs)) (h : ∀ od u, EvE K G0 te E (mup S a (.lck od u kvs)) fun m S' => S' a = some (.lck od u kvs) ∧ Q m (mup S' a (.dct kvs))) : EvE K G0 (tLockE te) E S Q := fun G own H σ Rr e R r cv => by
  obtain ⟨u, hu, us, rfl, ru⟩ := R.look hS trivial
  exact ⟨a, .dK us, hu, trivial, fun od => h od (.dK us) G own _ σ _ e (R.write hS (fr_lck ru)) r fun v H' G' own' m S' e' R' vr q => ⟨(unlock R' q.1).1, cv v _ G' own' m _ e' (unlock R' q.1).2 vr q.2⟩⟩
theorem m_freeze (h : EvE K G0 te E S fun m S1 => ∃ a kvs, m = .mu a ∧ S1 a = some (.dct kvs) ∧ ∀ od u, Q (.mu a) (mup S1 a (.lck od u kvs))) : EvE K G0 (tFreeze te) E S Q := fun G own H σ R e Rp r cv =>
  h G own H σ _ e Rp r fun v H' G' own' m S' e' R' vr q => by
    obtain ⟨a, kvs, rfl, h1, q⟩ := q
    cases vr
    obtain ⟨u, hu, us, rfl, ru⟩ := R'.look h1 trivial
    exact ⟨a, us, rfl, hu, fun od => cv _ _ G' own' (.mu a) _ e' (R'.write h1 (fr_lck ru)) rfl (q od (.dK us))⟩
/-! ### isinstance -/
def tyD : D → String
  | .non => "NoneType" | .bl _ => "bool" | .int _ => "int" | .str _ => "str" | .lst _ => "list" | .tup _ => "tuple" | .scr _ => "list"
def notScr : D → Bool
  | .scr _ => false
  | _ => true
theorem m_isi {d : D} {n : String} {b : Bool} (hs : notScr d = true) (hb : L2.kitB (tyD d) n = some b) (h : Q (.im (.bl b)) S) : EvC K G0 (rIsi K) [.im d, .ty n] S Q := fun G own H v R _ Rp vr cv => by
  cases vr with
  | cons h1 h2 => cases h2 with
    | cons h2 h3 =>
      cases h3; cases h2
      refine ⟨_, _, .type (tyD d), .type n, b, rfl, .ty n, .base ?_, kit_ty hb, cv _ H G own _ S Ext.rfl' Rp (vr_bl b) h⟩
      cases h1 with
      | non => exact .non
      | bl b => exact .bl b
      | int i => exact .int i
      | str x => exact .str x
      | lst h _ => exact .lst (Rp.e _ _ h)
      | tup h _ => exact .tup (Rp.e _ _ h)
      | scr h => cases hs
theorem m_isiM {ms : List MV} {n : String} {b : Bool} (hS : S a = some (.lst ms)) (hb : L2.kitB "list" n = some b) (h : Q (.im (.bl b)) S) : EvC K G0 (rIsi K) [.mu a, .ty n] S Q := fun G own H v R _ Rp vr cv => by
  obtain ⟨u, hu, us, rfl, ru⟩ := Rp.look hS trivial
  cases vr with
  | cons h1 h2 => cases h2 with
    | cons h2 h3 =>
      cases h3; cases h2; cases h1
      exact ⟨_, _, .type "list", .type n, b, rfl, .ty n, .base (.lst hu), kit_ty hb, cv _ H G own _ S Ext.rfl' Rp (vr_bl b) h⟩
end
end Kr
namespace Kr
open PySem PySem.Spec L2
/-! ### loops -/
structure Src where
  n : Nat
  C : MS → Prop
  it : Nat → MV → Prop
def EvI (K : PySem.W.Frag) (G0 : Hp) (wi : TI) (E : Env) (S : MS) (Q : Src → MS → Prop) : Prop := ∀ G own H σ (R : It → Hp → Prop), Ext G0 G → Rep K G own H S → ER K G σ E →
  (∀ src H' G' own' S1 J (Gd : Hp → Prop) (Y : Nat → Hp → V → Hp → Prop), Ext G G' → Rep K G' own' H' S1 → Q src S1 → Walk J src.n Gd Y →
    (∀ G2 own2 H2 S2, Ext G' G2 → Rep K G2 own2 H2 S2 → src.C S2 → Gd H2) →
    (∀ i H2 x H3 G2 own2 S2, i < src.n → Ext G' G2 → Rep K G2 own2 H2 S2 → src.C S2 → Y i H2 x H3 → H3 = H2 ∧ ∃ m, src.it i m ∧ VR K G2 x m) → R J H') → wi σ H R
section
variable {K : PySem.W.Frag} {G0 : Hp} {E : Env} {S S1 S2 : MS} {m m1 m2 : MV} {a : Addr} {Q : MV → MS → Prop} {N : ME} {te : TE} {ts tb : TS} {wi : TI} {g g1 g2 : TG} {P : Src → MS → Prop}
def srcD (ds : List D) : Src := ⟨ds.length, fun _ => True, fun i m => ∃ d, ds[i]? = some d ∧ m = .im d⟩
def srcM (a : Addr) (ms : List MV) : Src := ⟨ms.length, fun S => S a = some (.lst ms), fun i m => ms[i]? = some m⟩
def srcR (n : Nat) : Src := ⟨n, fun _ => True, fun i m => m = .im (.int i)⟩
def srcS (z : Str) : Src := ⟨z.cps.size, fun _ => True, fun i m => ∃ c, z.cps[i]? = some c ∧ m = .im (.str ⟨#[c]⟩)⟩
def srcK (a : Addr) (od : Obj) (u : HO) (kvs : List (Key × MV)) : Src := ⟨kvs.length, fun S => S a = some (.lck od u kvs), fun i m => ∃ k v, kvs[i]? = some (k, v) ∧ m = .im (kD k)⟩
theorem im_item {G : Hp} {xs : List V} {ds : List D} (h : ImA K G xs ds) {i : Nat} {x : V} (e : xs[i]? = some x) : ∃ m, (∃ d, ds[i]? = some d ∧ m = MV.im d) ∧ VR K G x m := by
  obtain ⟨b, h1, h2⟩ := Paired.getL h.vrs e
  rw [List.getElem?_map] at h1
  cases e2 : ds[i]? with
  | none => rw [e2] at h1; cases h1
  | some d => rw [e2] at h1; cases h1; exact ⟨_, ⟨d, rfl, rfl⟩, h2⟩
theorem i_list (h : EvE K G0 te E S fun m S1 => (∃ ds, m = .im (.lst ds) ∧ P (srcD ds) S1) ∨ ∃ a ms, m = .mu a ∧ S1 a = some (.lst ms) ∧ P (srcM a ms) S1) : EvI K G0 (iList K te) E S P := fun G own H σ R e Rp r c =>
  h G own H σ _ e Rp r fun v H' G' own' m S' e' R' vr q => by
    rcases q with ⟨ds, rfl, q⟩ | ⟨a, ms, rfl, hS, q⟩
    · cases vr with
      | @lst a xs _ h1 h2 =>
        refine ⟨a, rfl, ⟨xs, SqL.of (R'.e _ _ h1)⟩, c _ H' G' own' S' _ (fun H2 => SqL K H2 a xs) (YAt xs) e' R' q ?_ (fun G2 own2 H2 S2 e2 R2 _ => SqL.of (R2.e _ _ (e2 _ _ h1))) fun i H2 x H3 G2 own2 S2 hi e2 R2 _ y => ?_⟩
        · show Walk (Itl K a) ds.length _ _
          rw [← h2.length]; exact walk_list
        · exact ⟨y.1, im_item (h2.ext e2) y.2⟩
    · obtain ⟨u, hu, vs, rfl, rv⟩ := R'.look hS trivial
      cases vr
      -- the real items may stand for the cell's in more than one way
      refine ⟨a, rfl, ⟨vs, SqL.of hu⟩, c (srcM a ms) H' G' own' S' _ (fun H2 => ∃ ws, H2 a = some (.lst ws) ∧ ws.length = ms.length) (fun i H x H3 => H3 = H ∧ ∃ ws, H a = some (.lst ws) ∧ ws[i]? = some x) e' R' q ⟨?_, ?_, ?_⟩ (fun G2 own2 H2 S2 e2 R2 hc => ?_) fun i H2 x H3 G2 own2 S2 hi e2 R2 hc y => ?_⟩
      · rintro i H2 hi ⟨ws, h1, h2⟩
        have hi' : i < ws.length := by rw [h2]; exact hi
        exact ⟨ws, ws[i], SqL.of h1, by simp [hi']⟩
      · rintro H2 ⟨ws, h1, h2⟩; exact ⟨ws, SqL.of h1, Nat.le_of_eq h2⟩
      · rintro i H2 x H3 hi ⟨ws, h1, h2⟩ y; exact ⟨y.1, ws, h1, y.2 ws (SqL.of h1)⟩
      · obtain ⟨u, hu, ws, rfl, rw'⟩ := R2.look hc trivial
        exact ⟨ws, hu, Paired.length rw'⟩
      · obtain ⟨rfl, ws, h1, h2⟩ := y
        obtain ⟨u, hu, ws', rfl, rw'⟩ := R2.look hc trivial
        rw [h1] at hu; cases hu
        obtain ⟨b, h3, h4⟩ := Paired.getL rw' h2
        exact ⟨rfl, b, h3, h4⟩
theorem i_tup {ds : List D} (h : EvE K G0 te E S fun m S1 => m = .im (.tup ds) ∧ P (srcD ds) S1) : EvI K G0 (iTup K te) E S P := fun G own H σ R e Rp r c =>
  h G own H σ _ e Rp r fun v H' G' own' m S' e' R' vr q => by
    obtain ⟨rfl, q⟩ := q
    cases vr with
    | @tup a xs _ h1 h2 =>
      refine ⟨a, rfl, ⟨xs, SqT.of (R'.e _ _ h1)⟩, c _ H' G' own' S' _ (fun H2 => SqT K H2 a xs) (YAt xs) e' R' q ?_ (fun G2 own2 H2 S2 e2 R2 _ => SqT.of (R2.e _ _ (e2 _ _ h1))) fun i H2 x H3 G2 own2 S2 hi e2 R2 _ y => ?_⟩
      · show Walk (Itt K a) ds.length _ _
        rw [← h2.length]; exact walk_tup
      · exact ⟨y.1, im_item (h2.ext e2) y.2⟩
theorem i_rng {n : Nat} (h : EvE K G0 te E S fun m S1 => ∃ j : Int, m = .im (.int j) ∧ -1000000 ≤ j ∧ j ≤ 1000000 ∧ P (srcR j.toNat) S1) : EvI K G0 (iRng1 (tCons te tNil)) E S P := fun G own H σ R e Rp r c =>
  h G own H σ _ e Rp r fun v H' G' own' m S' e' R' vr q => by
    obtain ⟨j, rfl, h1, h2, q⟩ := q
    cases vr
    refine ⟨j, rfl, by omega, by omega, c _ H' G' own' S' _ _ _ e' R' q walk_range (fun _ _ _ _ _ _ _ => trivial) fun i H2 x H3 G2 own2 S2 hi e2 R2 _ y => ?_⟩
    obtain ⟨rfl, rfl⟩ := y
    exact ⟨rfl, _, rfl, by show Im K G2 (.int (0 + (i : Int))) (.int i); rw [show (0 : Int) + (i : Int) = i by omega]; exact .int _⟩
theorem i_str (h : EvE K G0 te E S fun m S1 => ∃ z, m = .im (.str z) ∧ P (srcS z) S1) : EvI K G0 (iStr te) E S P := fun G own H σ R e Rp r c =>
  h G own H σ _ e Rp r fun v H' G' own' m S' e' R' vr q => by
    obtain ⟨z, rfl, q⟩ := q
    cases vr
    refine ⟨z, rfl, c _ H' G' own' S' _ _ _ e' R' q walk_str (fun _ _ _ _ _ _ _ => trivial) fun i H2 x H3 G2 own2 S2 hi e2 R2 _ y => ?_⟩
    obtain ⟨rfl, ch, h1, rfl⟩ := y
    exact ⟨rfl, _, ⟨ch, h1, rfl⟩, .str _⟩
theorem i_keys (h : EvE K G0 te E S fun m S1 => ∃ a od u kvs, m = .mu a ∧ S1 a = some (.lck od u kvs) ∧ P (srcK a od u kvs) S1) : EvI K G0 (iKeys te) E S P := fun G own H σ R e Rp r c =>
  h G own H σ _ e Rp r fun v H' G' own' m S' e' R' vr q => by
    obtain ⟨a, od, u, kvs, rfl, hS, q⟩ := q
    cases vr
    obtain ⟨x, hx, rfl, us, rfl, ru⟩ := R'.look hS trivial
    refine ⟨a, od, rfl, .inl ⟨us, hx, c _ H' G' own' S' _ (fun H => H a = some (.frz od (.dK us))) (fun i H x H' => H' = H ∧ ∃ k v, us[i]? = some (k, v) ∧ x = kV k) e' R' q ?_ (fun G2 own2 H2 S2 e2 R2 hc => ?_) fun i H2 x H3 G2 own2 S2 hi e2 R2 _ y => ?_⟩⟩
    · show Walk _ kvs.length _ _
      rw [← Paired.length ru]; exact walk_keys
    · obtain ⟨y, hy, rfl, us2, e3, _⟩ := R2.look hc trivial
      exact hy
    · obtain ⟨rfl, k, v, h1, rfl⟩ := y
      obtain ⟨b, h2, h3⟩ := Paired.getL ru h1
      refine ⟨rfl, _, ⟨b.1, b.2, h2, rfl⟩, ?_⟩
      have e4 : k = b.1 := h3.1
      subst e4
      exact kD_ok _
theorem m_for (h : EvI K G0 wi E S fun src S1 => ∃ Pv : Nat → Env → MS → Prop, Pv 0 E S1 ∧ (∀ i E' S', i ≤ src.n → Pv i E' S' → src.C S') ∧
    (∀ i m E' S', i < src.n → src.it i m → Pv i E' S' → EvG K G0 g m E' S' fun E2 S2 => EvS K G0 tb E2 S2 ⟨Pv (i + 1), N.rt, N.nx, Pv (i + 1)⟩) ∧ ∀ E' S', Pv src.n E' S' → N.nx E' S') : EvS K G0 (tFor wi g tb) E S N := fun G own H σ D e Rp r n1 n2 n3 n4 =>
  h G own H σ _ e Rp r fun src H' G' own' S1 J Gd Y e' R' q w hG hY => by
    obtain ⟨Pv, p0, pC, pS, pE⟩ := q
    refine for_it w (fun i σ' H' => ∃ G2 own2 E2 S2, Ext G' G2 ∧ Rep K G2 own2 H' S2 ∧ ER K G2 σ' E2 ∧ Pv i E2 S2) ⟨G', own', E, S1, Ext.rfl', R', r.ext e', p0⟩ (fun i σ' H2 hi h => ?_) (fun i x σ' H2 H3 hi h y => ?_) (fun σ' H2 h => ?_)
    · obtain ⟨G2, own2, E2, S2, e2, R2, r2, p⟩ := h
      exact hG G2 own2 H2 S2 e2 R2 (pC i E2 S2 hi p)
    · obtain ⟨G2, own2, E2, S2, e2, R2, r2, p⟩ := h
      obtain ⟨rfl, m, hm, vr⟩ := hY i H2 x H3 G2 own2 S2 hi e2 R2 (pC i E2 S2 (Nat.le_of_lt hi) p) y
      refine pS i m E2 S2 hi hm p G2 own2 _ σ' x _ ((e.trans e').trans e2) R2 r2 vr fun σ3 H3 G3 own3 E3 S3 e3 R3 r3 q => ?_
      refine q G3 own3 H3 σ3 _ (((e.trans e').trans e2).trans e3) R3 r3 ?_ (n2.ext ((e'.trans e2).trans e3)) (n1.ext ((e'.trans e2).trans e3)) ?_
      · exact fun σ4 H4 G4 own4 E4 S4 e4 R4 r4 q => ⟨G4, own4, E4, S4, (e2.trans e3).trans e4, R4, r4, q⟩
      · exact fun σ4 H4 G4 own4 E4 S4 e4 R4 r4 q => ⟨G4, own4, E4, S4, (e2.trans e3).trans e4, R4, r4, q⟩
    · obtain ⟨G2, own2, E2, S2, e2, R2, r2, p⟩ := h
      exact n1 σ' H2 G2 own2 E2 S2 (e'.trans e2) R2 r2 (pE E2 S2 p)
/-- for i, x in enumerate(list) -/
theorem m_forE (h : EvE K G0 te E S fun m S1 => ∃ ms, LsM S1 m ms ∧ ∃ Pv : Nat → Env → MS → Prop, Pv 0 E S1 ∧ (∀ i E' S', i ≤ ms.length → Pv i E' S' → LsM S' m ms) ∧
    (∀ i x E' S', ms[i]? = some x → i < ms.length → Pv i E' S' → EvG K G0 g1 (.im (.int i)) E' S' fun E2 S2 => EvG K G0 g2 x E2 S2 fun E3 S3 => EvS K G0 tb E3 S3 ⟨Pv (i + 1), N.rt, N.nx, Pv (i + 1)⟩) ∧ ∀ E' S', Pv ms.length E' S' → N.nx E' S') :
    EvS K G0 (tFor (iEnum K (tCons te tNil)) (gTup K 2 (gCons g1 (gCons g2 gNil))) tb) E S N := fun G own H σ D e Rp r n1 n2 n3 n4 =>
  h G own H σ _ e Rp r fun v H' G' own' m S' e' R' vr q => by
    obtain ⟨ms, hl, Pv, p0, pC, pS, pE⟩ := q
    obtain ⟨a, vs, rfl, hp, rv⟩ := hl.at_ R' vr
    have w : Walk (Ite K a) ms.length (fun H => ∃ ws, H a = some (.lst ws) ∧ ws.length = ms.length) (fun i H v H' => ∃ T x ws, v = .ref T ∧ H T = none ∧ H' = upd H T (.tup [.int (i : Nat), x]) ∧ H a = some (.lst ws) ∧ ws[i]? = some x) := by
      refine ⟨?_, ?_, ?_⟩
      · rintro i H2 hi ⟨ws, h1, h2⟩
        have hi' : i < ws.length := by rw [h2]; exact hi
        exact ⟨ws, ws[i], SqL.of h1, by simp [hi']⟩
      · rintro H2 ⟨ws, h1, h2⟩; exact ⟨ws, SqL.of h1, Nat.le_of_eq h2⟩
      · rintro i H2 x H3 hi ⟨ws, h1, h2⟩ ⟨T, y, h3, h4, h5, h6⟩; exact ⟨T, y, ws, h3, h4, h5, h1, h6 ws (SqL.of h1)⟩
    refine ⟨a, vs, rfl, SqL.of hp, for_it w (fun i σ' H' => ∃ G2 own2 E2 S2, Ext G' G2 ∧ Rep K G2 own2 H' S2 ∧ ER K G2 σ' E2 ∧ Pv i E2 S2) ⟨G', own', E, S', Ext.rfl', R', r.ext e', p0⟩ (fun i σ' H2 hi h => ?_) (fun i x σ' H2 H3 hi h y => ?_) (fun σ' H2 h => ?_)⟩
    · obtain ⟨G2, own2, E2, S2, e2, R2, r2, p⟩ := h
      obtain ⟨a', ws, ea, hw, rw'⟩ := (pC i E2 S2 hi p).at_ R2 (vr.ext e2)
      cases ea
      exact ⟨ws, hw, Paired.length rw'⟩
    · obtain ⟨G2, own2, E2, S2, e2, R2, r2, p⟩ := h
      obtain ⟨T, x', ws, rfl, hT, rfl, h1, h2⟩ := y
      obtain ⟨a', ws', ea, hw, rw'⟩ := (pC i E2 S2 (Nat.le_of_lt hi) p).at_ R2 (vr.ext e2)
      cases ea
      rw [h1] at hw; cases hw
      obtain ⟨y, h3, h4⟩ := Paired.getL rw' h2
      have R3 := R2.junk (u := .tup [.int (i : Nat), x']) hT
      have e3 := (e.trans e').trans e2
      refine ⟨T, _, rfl, SqT.of upd_same, rfl, ⟨_, _, rfl, pS i y E2 S2 h3 hi p G2 own2 _ σ' (.int i) _ e3 R3 r2 (vr_int i) fun σ3 H3 G3 own3 E3 S3 e4 R3 r3 q => ⟨_, _, rfl, q G3 own3 H3 σ3 _ _ (e3.trans e4) R3 r3 (h4.ext e4) fun σ4 H4 G4 own4 E4 S4 e5 R4 r4 q => ⟨rfl, ?_⟩⟩⟩⟩
      have e6 := e4.trans e5
      refine q G4 own4 H4 σ4 _ (e3.trans e6) R4 r4 ?_ (n2.ext ((e'.trans e2).trans e6)) (n1.ext ((e'.trans e2).trans e6)) ?_
      · exact fun σ4 H4 G4 own4 E4 S4 e4 R4 r4 q => ⟨G4, own4, E4, S4, (e2.trans e6).trans e4, R4, r4, q⟩
      · exact fun σ4 H4 G4 own4 E4 S4 e4 R4 r4 q => ⟨G4, own4, E4, S4, (e2.trans e6).trans e4, R4, r4, q⟩
    · obtain ⟨G2, own2, E2, S2, e2, R2, r2, p⟩ := h
      exact n1 σ' H2 G2 own2 E2 S2 (e'.trans e2) R2 r2 (pE E2 S2 p)
/-- for k, v in dict.items() -/
theorem m_forD (h : EvE K G0 te E S fun m S1 => ∃ a od u kvs, m = .mu a ∧ S1 a = some (.lck od u kvs) ∧ ∃ Pv : Nat → Env → MS → Prop, Pv 0 E S1 ∧ (∀ i E' S', i ≤ kvs.length → Pv i E' S' → S' a = some (.lck od u kvs)) ∧
    (∀ i k x E' S', kvs[i]? = some (k, x) → i < kvs.length → Pv i E' S' → EvG K G0 g1 (.im (kD k)) E' S' fun E2 S2 => EvG K G0 g2 x E2 S2 fun E3 S3 => EvS K G0 tb E3 S3 ⟨Pv (i + 1), N.rt, N.nx, Pv (i + 1)⟩) ∧ ∀ E' S', Pv kvs.length E' S' → N.nx E' S') :
    EvS K G0 (tFor (iItems te) (gTup K 2 (gCons g1 (gCons g2 gNil))) tb) E S N := fun G own H σ D e Rp r n1 n2 n3 n4 =>
  h G own H σ _ e Rp r fun v H' G' own' m S' e' R' vr q => by
    obtain ⟨a, od, u, kvs, rfl, hS, Pv, p0, pC, pS, pE⟩ := q
    cases vr
    obtain ⟨x, hx, rfl, us, rfl, ru⟩ := R'.look hS trivial
    have w := walk_items (d := a) (o := od) (kvs := us)
    have el := Paired.length ru
    refine ⟨a, od, us, rfl, hx, for_it w (fun i σ' H' => ∃ G2 own2 E2 S2, Ext G' G2 ∧ Rep K G2 own2 H' S2 ∧ ER K G2 σ' E2 ∧ Pv i E2 S2) ⟨G', own', E, S', Ext.rfl', R', r.ext e', p0⟩ (fun i σ' H2 hi h => ?_) (fun i x σ' H2 H3 hi h y => ?_) (fun σ' H2 h => ?_)⟩
    · obtain ⟨G2, own2, E2, S2, e2, R2, r2, p⟩ := h
      obtain ⟨y, hy, rfl, _⟩ := R2.look (pC i E2 S2 (by omega) p) trivial
      exact hy
    · obtain ⟨G2, own2, E2, S2, e2, R2, r2, p⟩ := h
      obtain ⟨T, x', y', rfl, hT, rfl, h1, h2⟩ := y
      dsimp only at h1 h2
      cases e5 : us[i]? with
      | none => rw [e5] at h1; cases h1
      | some kv =>
        rw [e5] at h1 h2
        cases h1; cases h2
        obtain ⟨b, h3, h4⟩ := Paired.getL ru e5
        have R3 := R2.junk (u := .tup [kV kv.1, kv.2]) hT
        have e3 := (e.trans e').trans e2
        have ek : kv.1 = b.1 := h4.1
        refine ⟨T, _, rfl, SqT.of upd_same, rfl, ⟨_, _, rfl, pS i b.1 b.2 E2 S2 h3 (by omega) p G2 own2 _ σ' (kV kv.1) _ e3 R3 r2 (by rw [ek]; exact kD_ok _) fun σ3 H3 G3 own3 E3 S3 e4 R3 r3 q => ⟨_, _, rfl, q G3 own3 H3 σ3 _ _ (e3.trans e4) R3 r3 ((h4.2.ext e2).ext e4) fun σ4 H4 G4 own4 E4 S4 e5 R4 r4 q => ⟨rfl, ?_⟩⟩⟩⟩
        have e6 := e4.trans e5
        refine q G4 own4 H4 σ4 _ (e3.trans e6) R4 r4 ?_ (n2.ext ((e'.trans e2).trans e6)) (n1.ext ((e'.trans e2).trans e6)) ?_
        · exact fun σ4 H4 G4 own4 E4 S4 e4 R4 r4 q => ⟨G4, own4, E4, S4, (e2.trans e6).trans e4, R4, r4, q⟩
        · exact fun σ4 H4 G4 own4 E4 S4 e4 R4 r4 q => ⟨G4, own4, E4, S4, (e2.trans e6).trans e4, R4, r4, q⟩
    · obtain ⟨G2, own2, E2, S2, e2, R2, r2, p⟩ := h
      exact n1 σ' H2 G2 own2 E2 S2 (e'.trans e2) R2 r2 (pE E2 S2 (by rw [← el]; exact p))
/-! ### comprehensions -/
theorem wipe1 (σ : St) (i : Nat) (v : Option V) : wipe ((wipe σ [i]).set i v) [i] = wipe σ [i] := by simp [wipe]
theorem m_lcM {i0 : Nat} {tt : TT} (h : EvI K G0 wi E S fun src S1 => src.n ≤ 60000 ∧ ∃ Pv : Nat → List MV → MS → Prop, Pv 0 [] S1 ∧ (∀ i acc S' D, i ≤ src.n → Pv i acc S' → S' D = none → src.C (mup S' D (.lst acc))) ∧
    (∀ i m acc S' D, i < src.n → src.it i m → Pv i acc S' → S' D = none → acc.length ≤ i → EvT K G0 tt (E.set i0 (some m)) (mup S' D (.lst acc)) fun b S2 =>
      (b = true → EvE K G0 te (E.set i0 (some m)) S2 fun y S3 => ∃ S4, S3 = mup S4 D (.lst acc) ∧ S4 D = none ∧ Pv (i + 1) (acc ++ [y]) S4) ∧ (b = false → ∃ S4, S2 = mup S4 D (.lst acc) ∧ S4 D = none ∧ Pv (i + 1) acc S4)) ∧
    ∀ acc S' D, Pv src.n acc S' → S' D = none → Q (.mu D) (mup S' D (.lst acc))) : EvE K G0 (tLc wi (gName i0) tt te [i0]) E S Q := fun G own H σ R e Rp r cv =>
  h G own H σ _ e Rp r fun src H' G' own' S1 J Gd Y e' R' q w hG hY => by
    obtain ⟨hn, Pv, p0, pC, pS, pE⟩ := q
    intro D hD
    refine lc_it w (Qd := fun H' => R (.ref D) H') (fun i H2 => ∃ G2 own2 S2 acc, Ext G' G2 ∧ Rep K G2 own2 H2 (mup S2 D (.lst acc)) ∧ S2 D = none ∧ Pv i acc S2 ∧ acc.length ≤ i)
      ⟨G', _, S1, [], Ext.rfl', R'.cell hD (fr_lst .nil), R'.free hD, p0, Nat.le_refl _⟩ (fun i H2 hi h => ?_) (fun i x H2 H3 hi h y => ?_) (fun H2 h => ?_)
    · obtain ⟨G2, own2, S2, acc, e2, R2, hd, p, _⟩ := h
      exact hG G2 own2 H2 _ e2 R2 (pC i acc S2 D hi p hd)
    · obtain ⟨G2, own2, S2, acc, e2, R2, hd, p, hl⟩ := h
      obtain ⟨rfl, m, hm, vr⟩ := hY i H2 x H3 G2 own2 _ hi e2 R2 (pC i acc S2 D (Nat.le_of_lt hi) p hd) y
      refine ⟨wipe1 σ i0 (some x), ?_⟩
      have r2 : ER K G2 ((wipe σ [i0]).set i0 (some x)) (E.set i0 (some m)) := by
        have : (wipe σ [i0]).set i0 (some x) = σ.set i0 (some x) := by simp [wipe]
        rw [this]; exact ER.set i0 (ER.ext (e'.trans e2) r) vr
      refine pS i m acc S2 D hi hm p hd hl G2 own2 _ _ _ ((e.trans e').trans e2) R2 r2 fun b H4 G4 own4 S4 e4 R4 q => ?_
      have fin : ∀ v H5 G5 own5 y S5, Ext G4 G5 → Rep K G5 own5 H5 S5 → VR K G5 v y → (∃ S6, S5 = mup S6 D (.lst acc) ∧ S6 D = none ∧ Pv (i + 1) (acc ++ [y]) S6) → ∃ vs, H5 D = some (.lst vs) ∧ vs.length < sizeLine ∧ ∃ G2 own2 S2 acc, Ext G' G2 ∧ Rep K G2 own2 (upd H5 D (.lst (vs ++ [v]))) (mup S2 D (.lst acc)) ∧ S2 D = none ∧ Pv (i + 1) acc S2 ∧ acc.length ≤ i + 1 := by
        rintro v H5 G5 own5 y S5 e5 R5 vr5 ⟨S6, rfl, hd6, p6⟩
        obtain ⟨u, hu, vs, rfl, rv⟩ := R5.look mup_same trivial
        refine ⟨vs, hu, by rw [Paired.length rv, sizeLine_eq]; omega, G5, own5, S6, acc ++ [y], (e2.trans e4).trans e5, ?_, hd6, p6, by simp; omega⟩
        have := R5.write (o' := .lst (acc ++ [y])) mup_same (fr_lst (Paired.app rv (.cons vr5 .nil)))
        rw [mup_mup] at this
        exact this
      cases b with
      | true => exact iteT (q.1 rfl G4 own4 H4 _ _ (((e.trans e').trans e2).trans e4) R4 (r2.ext e4) fun v H5 G5 own5 y S5 e5 R5 vr5 q5 => fin v H5 G5 own5 y S5 e5 R5 vr5 q5)
      | false =>
        obtain ⟨S6, rfl, hd6, p6⟩ := q.2 rfl
        exact iteF ⟨G4, own4, S6, acc, e2.trans e4, R4, hd6, p6, Nat.le_succ_of_le hl⟩
    · obtain ⟨G2, own2, S2, acc, e2, R2, hd, p, _⟩ := h
      exact cv _ H2 G2 own2 (.mu D) _ (e'.trans e2) R2 (vr_mu D) (pE acc S2 D p hd)
/-- a comprehension that makes plain data and leaves all cells -/
theorem m_lc {i0 : Nat} {tt : TT} (h : EvI K G0 wi E S fun src S1 => src.n ≤ 60000 ∧ (∀ S', Sub S1 S' → src.C S') ∧ ∃ f : Nat → Option D,
    (∀ i m S', i < src.n → src.it i m → Sub S1 S' → EvT K G0 tt (E.set i0 (some m)) S' fun b S2 => S2 = S' ∧ (b = true → EvE K G0 te (E.set i0 (some m)) S' fun y S3 => S3 = S' ∧ ∃ d, y = .im d ∧ f i = some d) ∧ (b = false → f i = none)) ∧
    Q (.im (.lst ((List.range src.n).filterMap f))) S1) : EvE K G0 (tLc wi (gName i0) tt te [i0]) E S Q := by
  refine e_up (m_lcM fun G own H σ R e Rp r c => h G own H σ R e Rp r fun src H' G' own' S1 J Gd Y e' R' q w hG hY => c src H' G' own' S1 J Gd Y e' R' ?_ w hG hY)
  obtain ⟨hn, hC, f, hs, hq⟩ := q
  refine ⟨hn, fun i acc S' => S' = S1 ∧ acc = ((List.range i).filterMap f).map .im, ⟨rfl, rfl⟩, ?_, ?_, ?_⟩
  · rintro i acc S' D _ ⟨rfl, _⟩ hd
    exact hC _ (Sub.rfl'.mup hd)
  · rintro i m acc S' D hi hm ⟨rfl, rfl⟩ hd _
    refine (hs i m _ hi hm (Sub.rfl'.mup hd)).mono ?_
    rintro b S2 ⟨rfl, h1, h2⟩
    refine ⟨fun hb => (h1 hb).mono ?_, fun hb => ⟨_, rfl, hd, rfl, ?_⟩⟩
    · rintro y S3 ⟨rfl, d, rfl, hf⟩
      refine ⟨_, rfl, hd, rfl, ?_⟩
      rw [List.range_succ, List.filterMap_append, List.map_append]
      simp [hf]
    · rw [List.range_succ, List.filterMap_append, List.map_append]
      simp [h2 hb]
  · rintro acc S' D ⟨rfl, rfl⟩ hd
    refine up_go (go_frzL mup_same) (up ?_)
    rw [mer_mup hd]
    exact hq
/-! ### tries -/
def tryH (K : PySem.W.Frag) (G0 : Hp) (N : ME) : List (Value × (Addr → Value → Option Addr → TS)) → Value → Env → MS → Prop
  | [], _, _, _ => False
  | (c, ts) :: r, cls, E', S' => ∃ b, PySem.W.exmOne K cls c = some b ∧ (b = true → ∀ a, EvS K G0 (ts a cls none) E' S' N) ∧ (b = false → tryH K G0 N r cls E' S')
theorem tryH_W {G : Hp} {D : Ends} {N : ME} (e : Ext G0 G) (n1 : CS K G N.nx D.nx) (n2 : CV K G N.rt D.rt) (n3 : CS K G N.bk D.bk) (n4 : CS K G N.ct D.ct) : ∀ l, CW K G (tryH K G0 N l) (wMany K (fun _ _ _ _ => False) D l)
  | [] => fun _ _ _ _ _ _ _ _ _ _ h => h.elim
  | (c, ts) :: r => fun cls σ' H' G' own' E' S' e' R' r' ⟨b, h1, h2, h3⟩ => ⟨b, h1, fun hb a _ => h2 hb a G' own' H' σ' D (e.trans e') R' r' (n1.ext e') (n2.ext e') (n3.ext e') (n4.ext e'),
      fun hb => tryH_W e n1 n2 n3 n4 r cls σ' H' G' own' E' S' e' R' r' (h3 hb)⟩
theorem m_tryMany {tw : WX → TS} {l : List (Value × (Addr → Value → Option Addr → TS))} (h : ∀ G1 W, Ext G0 G1 → CW K G1 (tryH K G0 N l) W → EvS K G1 (tw W) E S N) : EvS K G0 (fun D σ H => (fun W => tw W) (wMany K (fun _ _ _ _ => False) D l) D σ H) E S N := fun G own H σ D e Rp r n1 n2 n3 n4 =>
  h G _ e (tryH_W e n1 n2 n3 n4 l) G own H σ D Ext.rfl' Rp r n1 n2 n3 n4
theorem m_tryOnly {tw : WX → TS} {c : Value} {ts : Addr → Value → Option Addr → TS} (h : ∀ G1 W, Ext G0 G1 → CW K G1 (tryH K G0 N [(c, ts)]) W → EvS K G1 (tw W) E S N) : EvS K G0 (fun D σ H => (fun W => tw W) (wOnly K c ts (fun _ _ _ _ => False) D) D σ H) E S N := fun G own H σ D e Rp r n1 n2 n3 n4 =>
  h G _ e (tryH_W e n1 n2 n3 n4 [(c, ts)]) G own H σ D Ext.rfl' Rp r n1 n2 n3 n4
/-- try .. except c as n -/
def tryA (K : PySem.W.Frag) (G0 : Hp) (N : ME) (c : Value) (i : Nat) (ts : Addr → Value → Option Addr → TS) : Value → Env → MS → Prop := fun cls E' S' =>
  PySem.W.exmOne K cls c = some true ∧ ∀ a, EvS K G0 (ts a cls none) (E'.set i (some (.mu a))) S' ⟨fun E2 S2 => N.nx (E2.set i none) S2, N.rt, fun E2 S2 => N.bk (E2.set i none) S2, fun E2 S2 => N.ct (E2.set i none) S2⟩
theorem m_tryAs {tw : WX → TS} {c : Value} {i : Nat} {ts : Addr → Value → Option Addr → TS} (h : ∀ G1 W, Ext G0 G1 → CW K G1 (tryA K G0 N c i ts) W → EvS K G1 (tw W) E S N) : EvS K G0 (fun D σ H => (fun W => tw W) (wAs K c i ts (fun _ _ _ _ => False) D) D σ H) E S N := fun G own H σ D e Rp r n1 n2 n3 n4 => by
  refine h G _ e ?_ G own H σ D Ext.rfl' Rp r n1 n2 n3 n4
  intro cls σ' H' G' own' E' S' e' R' r' q
  refine ⟨true, q.1, fun _ a _ => q.2 a G' own' H' _ _ (e.trans e') R' (r'.set i (vr_mu a)) ?_ (n2.ext e') ?_ ?_, fun z => nomatch z⟩
  · exact fun σ2 H2 G2 own2 E2 S2 e2 R2 r2 q => n1 _ H2 G2 own2 _ S2 (e'.trans e2) R2 (r2.unset i) q
  · exact fun σ2 H2 G2 own2 E2 S2 e2 R2 r2 q => n3 _ H2 G2 own2 _ S2 (e'.trans e2) R2 (r2.unset i) q
  · exact fun σ2 H2 G2 own2 E2 S2 e2 R2 r2 q => n4 _ H2 G2 own2 _ S2 (e'.trans e2) R2 (r2.unset i) q
theorem m_isE {ec : Value} {C D : Addr} {b : Bool} (h0 : ec = .ref D) (hx : ExcC K D) (hk : PySem.W.kitOne K (.ref D) (.ref C) = some b) (h : Q (.im (.bl b)) S) : EvC K G0 (c_isE K ec none a) [.mu a, .mu C] S Q := fun G own H v R _ Rp vr cv => by
  cases vr with
  | cons h1 h2 => cases h2 with
    | cons h2 h3 =>
      cases h3; cases h2; cases h1
      exact ⟨D, .ref C, .ref C, b, h0, rfl, hx, rfl, fun u hu => hu, hk, cv _ H G own _ S Ext.rfl' Rp (vr_bl b) h⟩
theorem m_isET {ec : Value} {D : Addr} {n : String} {b : Bool} (h0 : ec = .ref D) (hx : ExcC K D) (hk : PySem.W.kitOne K (.ref D) (.type n) = some b) (h : Q (.im (.bl b)) S) : EvC K G0 (c_isE K ec none a) [.mu a, .ty n] S Q := fun G own H v R _ Rp vr cv => by
  cases vr with
  | cons h1 h2 => cases h2 with
    | cons h2 h3 =>
      cases h3; cases h2; cases h1
      exact ⟨D, .ty n, .type n, b, h0, rfl, hx, rfl, fun u hu => hu, hk, cv _ H G own _ S Ext.rfl' Rp (vr_bl b) h⟩
/-! ### == and in, of data -/
mutual
def toP : D → PyData
  | .non => .none | .bl b => .bool b | .int i => .int i | .str x => .str x
  | .lst ds => .list (toPs ds) | .tup ds => .tuple (toPs ds) | .scr ns => .list (ns.map .int)
def toPs : List D → List PyData
  | [] => []
  | d :: ds => toP d :: toPs ds
end
mutual
theorem im_dp {G H : Hp} (e : Ext G H) : ∀ {d : D} {v : V}, Im K G v d → Dp K H v (toP d)
  | _, _, .non => by unfold toP; exact .non
  | _, _, .bl b => by unfold toP; exact .bl b
  | _, _, .int i => by unfold toP; exact .int i
  | _, _, .str x => by unfold toP; exact .str x
  | _, _, .lst h a => by unfold toP; exact .lst (SqL.of (e _ _ h)) (ima_dp e a)
  | _, _, .tup h a => by unfold toP; exact .tup (SqT.of (e _ _ h)) (ima_dp e a)
  | _, _, .scr h => by unfold toP; exact .lst (h.ext e) (dp_ints _)
theorem ima_dp {G H : Hp} (e : Ext G H) : ∀ {ds : List D} {vs : List V}, ImA K G vs ds → DpAll K H vs (toPs ds)
  | _, _, .nil => by unfold toPs; exact .nil
  | _, _, .cons h a => by unfold toPs; exact .cons (im_dp e h) (ima_dp e a)
theorem dp_ints {H : Hp} : ∀ ns : List Int, DpAll K H (ns.map V.int) (ns.map PyData.int)
  | [] => .nil
  | n :: ns => .cons (.int n) (dp_ints ns)
end
/-- a value that is read as data: data itself, or a list's cell of such -/
inductive Sees (S : MS) : MV → D → Prop where
  | im (d : D) : Sees S (.im d) d
  | mu {a : Addr} {ms : List MV} {ds : List D} (h : S a = some (.lst ms)) (hl : ms.length = ds.length) (ha : ∀ (i : Nat) m d, ms[i]? = some m → ds[i]? = some d → Sees S m d) : Sees S (.mu a) (.lst ds)
theorem Sees.ims {ds : List D} (h : S a = some (.lst (ds.map .im))) : Sees S (.mu a) (.lst ds) := .mu h (by simp) fun i m d h1 h2 => by
  rw [List.getElem?_map, h2] at h1; cases h1; exact .im d
theorem dpAll_of {H : Hp} : ∀ {vs : List V} {ds : List D}, vs.length = ds.length → (∀ (i : Nat) v d, vs[i]? = some v → ds[i]? = some d → Dp K H v (toP d)) → DpAll K H vs (toPs ds)
  | [], [], _, _ => by unfold toPs; exact .nil
  | v :: vs, d :: ds, hl, h => by
    unfold toPs
    exact .cons (h 0 v d rfl rfl) (dpAll_of (by simpa using hl) fun i v' d' h1 h2 => h (i + 1) v' d' (by simpa using h1) (by simpa using h2))
  | [], _ :: _, hl, _ => nomatch hl
  | _ :: _, [], hl, _ => nomatch hl
theorem Sees.dp {G : Hp} {own : Addr → Option Addr} {H : Hp} {m : MV} {d : D} (h : Sees S m d) (R : Rep K G own H S) : ∀ {v : V}, VR K G v m → Dp K H v (toP d) := by
  induction h with
  | im d => exact fun vr => im_dp R.e vr
  | mu h hl ha ih =>
    intro v vr
    obtain ⟨u, hu, vs, rfl, rv⟩ := R.look h trivial
    cases vr
    unfold toP
    refine .lst (SqL.of hu) (dpAll_of ((Paired.length rv).trans hl) fun i v d h1 h2 => ?_)
    obtain ⟨m, h3, h4⟩ := Paired.getL rv h1
    exact ih i m d h3 h2 h4
mutual
def okD : D → Bool
  | .lst ds => okDs ds
  | .tup ds => okDs ds
  | .scr _ => true
  | _ => true
def okDs : List D → Bool
  | [] => true
  | d :: ds => okD d && okDs ds
end
def eqvD (d e : D) : Bool := PyData.eqv (toP d) (toP e)
theorem m_eqX {x y : MV} {d e : D} (h1 : Sees S x d) (h2 : Sees S y e) (s1 : SeqAt.shaped (toP d) = true) (s2 : SeqAt.shaped (toP e) = true) (h : Q (.im (.bl (eqvD d e))) S) : EvR K G0 (rEqD K) x y S Q := fun G own H v u R _ Rp vr vu cv =>
  ⟨_, _, h1.dp Rp vr, h2.dp Rp vu, s1, s2, cv _ H G own _ S Ext.rfl' Rp (vr_bl _) h⟩
theorem m_neX {x y : MV} {d e : D} (h1 : Sees S x d) (h2 : Sees S y e) (s1 : SeqAt.shaped (toP d) = true) (s2 : SeqAt.shaped (toP e) = true) (h : Q (.im (.bl (!eqvD d e))) S) : EvR K G0 (rNeD K) x y S Q := fun G own H v u R _ Rp vr vu cv =>
  ⟨_, _, h1.dp Rp vr, h2.dp Rp vu, s1, s2, cv _ H G own _ S Ext.rfl' Rp (vr_bl _) h⟩
theorem eqvD_refl (d : D) (s : SeqAt.shaped (toP d) = true) : eqvD d d = true := SeqAt.eqv_refl _ (SeqAt.canLay_of_shaped s)
/-- flat data -/
def flatD : D → Bool
  | .non => true | .bl _ => true | .int _ => true | .str _ => true
  | _ => false
def vD : D → V
  | .bl b => .bl b | .int i => .int i | .str x => .str x
  | _ => .non
theorem vD_ok {G : Hp} {v : V} {d : D} (h : Im K G v d) (f : flatD d = true) : v = vD d ∧ flatV v = true := by
  cases h <;> first | exact ⟨rfl, rfl⟩ | cases f
theorem vD_all {G : Hp} : ∀ {vs : List V} {ds : List D}, ImA K G vs ds → ds.all flatD = true → vs = ds.map vD ∧ vs.all flatV = true
  | _, _, .nil, _ => ⟨rfl, rfl⟩
  | _, _, .cons h t, f => by
    rw [List.all_cons, Bool.and_eq_true] at f
    obtain ⟨e1, e2⟩ := vD_ok h f.1
    obtain ⟨e3, e4⟩ := vD_all t f.2
    exact ⟨by rw [List.map_cons, ← e1, ← e3], by rw [List.all_cons, e2, e4]; rfl⟩
def inD (d : D) (ds : List D) : Bool := ds.any fun e => L2.eqV (vD e) (vD d)
theorem inD_int (n : Int) (xs : List Int) : inD (.int n) (dInts xs) = decide (n ∈ xs) := by
  unfold inD dInts
  rw [List.any_map]
  induction xs with
  | nil => rfl
  | cons y ys ih =>
    rw [List.any_cons, ih]
    simp only [Function.comp, vD, L2.eqV, List.mem_cons]
    by_cases h : n = y
    · subst h; simp
    · have : ¬ y = n := fun e => h e.symm
      simp [h, this]
theorem inD_str (n : Str) (xs : List Str) : inD (.str n) (dStrs xs) = decide (n ∈ xs) := by
  unfold inD dStrs
  rw [List.any_map]
  induction xs with
  | nil => rfl
  | cons y ys ih =>
    rw [List.any_cons, ih]
    simp only [Function.comp, vD, L2.eqV, List.mem_cons]
    by_cases h : n = y
    · subst h; simp
    · have : ¬ y = n := fun e => h e.symm
      simp [h, this]
theorem m_inX {d : D} {x : MV} {ds : List D} {neg : Bool} (h1 : LsM S x (ds.map .im)) (f : flatD d = true) (fs : ds.all flatD = true) (h : Q (.im (.bl (if neg then !inD d ds else inD d ds))) S) : EvR K G0 (rIn K neg) (.im d) x S Q := fun G own H v u R _ Rp vr vu cv => by
  obtain ⟨p, vs, rfl, hp, rv⟩ := h1.at_ Rp vu
  obtain ⟨rfl, e2⟩ := vD_all (VRs.ims rv) fs
  obtain ⟨rfl, e3⟩ := vD_ok vr f
  refine ⟨p, _, rfl, .inl (SqL.of hp), e3, e2, ?_⟩
  have hin : inV (vD d) (ds.map vD) = inD d ds := by unfold inV inD; rw [List.any_map]; rfl
  rw [hin]; exact cv _ H G own _ S Ext.rfl' Rp (vr_bl _) h
theorem m_inT {d : D} {ds : List D} {neg : Bool} (f : flatD d = true) (fs : ds.all flatD = true) (h : Q (.im (.bl (if neg then !inD d ds else inD d ds))) S) : EvR K G0 (rIn K neg) (.im d) (.im (.tup ds)) S Q := fun G own H v u R _ Rp vr vu cv => by
  cases vu with
  | tup ha hs =>
    obtain ⟨rfl, e2⟩ := vD_all hs fs
    obtain ⟨rfl, e3⟩ := vD_ok vr f
    refine ⟨_, _, rfl, .inr (SqT.of (Rp.e _ _ ha)), e3, e2, ?_⟩
    have hin : inV (vD d) (ds.map vD) = inD d ds := by unfold inV inD; rw [List.any_map]; rfl
    rw [hin]; exact cv _ H G own _ S Ext.rfl' Rp (vr_bl _) h
end
end Kr
namespace Kr
open PySem PySem.Spec L2
section
variable {K : PySem.W.Frag} {G0 : Hp} {E : Env} {S : MS} {t u : TS} {te ta tb : TE} {c : TT} {i : Nat} {nx : Env → MS → Prop} {rt : MV → MS → Prop} {bk ct : Env → MS → Prop}
theorem n_seq (h : EvS K G0 t E S ⟨fun E' S' => EvS K G0 u E' S' ⟨nx, rt, bk, ct⟩, rt, bk, ct⟩) : EvS K G0 (tSeq t u) E S ⟨nx, rt, bk, ct⟩ := m_seq h
theorem n_next (h : nx E S) : EvS K G0 tNext E S ⟨nx, rt, bk, ct⟩ := m_next h
theorem n_brk (h : bk E S) : EvS K G0 tBreak E S ⟨nx, rt, bk, ct⟩ := m_brk h
theorem n_cont (h : ct E S) : EvS K G0 tCont E S ⟨nx, rt, bk, ct⟩ := m_cont h
theorem n_ret (h : EvE K G0 te E S rt) : EvS K G0 (tRet te) E S ⟨nx, rt, bk, ct⟩ := m_ret h
theorem n_retN (h : rt (.im .non) S) : EvS K G0 tRetN E S ⟨nx, rt, bk, ct⟩ := m_retN h
theorem n_drop (h : EvE K G0 te E S fun _ S' => nx E S') : EvS K G0 (tDrop te) E S ⟨nx, rt, bk, ct⟩ := m_drop h
theorem n_asg (h : EvE K G0 te E S fun m S' => nx (E.set i (some m)) S') : EvS K G0 (tAsg te (gName i)) E S ⟨nx, rt, bk, ct⟩ := m_asg h
theorem n_asgT {n : Nat} {gs : TGs} (h : EvE K G0 te E S fun m S' => EvG K G0 (gTup K n gs) m E S' nx) : EvS K G0 (tAsg te (gTup K n gs)) E S ⟨nx, rt, bk, ct⟩ := m_asgG h
theorem n_asgS {to ti : TE} {s : TSet} (h : EvE K G0 te E S fun m S' => EvG K G0 (gSub to ti s) m E S' nx) : EvS K G0 (tAsg te (gSub to ti s)) E S ⟨nx, rt, bk, ct⟩ := m_asgG h
theorem n_sfld {ta tv : TE} {f : Str} (h : EvE K G0 tv E S fun y S1 => EvE K G0 ta E S1 fun x S2 => ∃ a C dx fs, x = .mu a ∧ S2 a = some (.ins C dx fs) ∧ Cls K C ∧ NoAttr K C f ∧ fs.length < 1000 ∧ nx E (mup S2 a (.ins C dx (putFM f y fs)))) : EvS K G0 (sFld K ta tv f) E S ⟨nx, rt, bk, ct⟩ := m_sfld h
theorem n_dput {td ty tv : TE} (h : EvE K G0 tv E S fun w S1 => EvE K G0 td E S1 fun x S2 => EvE K G0 ty E S2 fun y S3 => ∃ a z kvs, x = .mu a ∧ y = .im (.str z) ∧ S3 a = some (.dct kvs) ∧ kvs.length ≤ 1000000 ∧ nx E (mup S3 a (.dct (putM kvs (.inr z) w)))) : EvS K G0 (sDPut td ty tv) E S ⟨nx, rt, bk, ct⟩ := m_dput h
theorem n_if (h : EvT K G0 c E S fun b S' => (b = true → EvS K G0 t E S' ⟨nx, rt, bk, ct⟩) ∧ (b = false → EvS K G0 u E S' ⟨nx, rt, bk, ct⟩)) : EvS K G0 (tIfS c t u) E S ⟨nx, rt, bk, ct⟩ := m_if h
theorem n_for {wi : TI} {g : TG} {tb : TS} (h : EvI K G0 wi E S fun src S1 => ∃ Pv : Nat → Env → MS → Prop, Pv 0 E S1 ∧ (∀ i E' S', i ≤ src.n → Pv i E' S' → src.C S') ∧
    (∀ i m E' S', i < src.n → src.it i m → Pv i E' S' → EvG K G0 g m E' S' fun E2 S2 => EvS K G0 tb E2 S2 ⟨Pv (i + 1), rt, nx, Pv (i + 1)⟩) ∧ ∀ E' S', Pv src.n E' S' → nx E' S') : EvS K G0 (tFor wi g tb) E S ⟨nx, rt, bk, ct⟩ := m_for h
theorem n_forE {g1 g2 : TG} {tb : TS} (h : EvE K G0 te E S fun m S1 => ∃ ms, LsM S1 m ms ∧ ∃ Pv : Nat → Env → MS → Prop, Pv 0 E S1 ∧ (∀ i E' S', i ≤ ms.length → Pv i E' S' → LsM S' m ms) ∧
    (∀ i x E' S', ms[i]? = some x → i < ms.length → Pv i E' S' → EvG K G0 g1 (.im (.int i)) E' S' fun E2 S2 => EvG K G0 g2 x E2 S2 fun E3 S3 => EvS K G0 tb E3 S3 ⟨Pv (i + 1), rt, nx, Pv (i + 1)⟩) ∧ ∀ E' S', Pv ms.length E' S' → nx E' S') :
    EvS K G0 (tFor (iEnum K (tCons te tNil)) (gTup K 2 (gCons g1 (gCons g2 gNil))) tb) E S ⟨nx, rt, bk, ct⟩ := m_forE h
theorem n_forD {g1 g2 : TG} {tb : TS} (h : EvE K G0 te E S fun m S1 => ∃ a od u kvs, m = .mu a ∧ S1 a = some (.lck od u kvs) ∧ ∃ Pv : Nat → Env → MS → Prop, Pv 0 E S1 ∧ (∀ i E' S', i ≤ kvs.length → Pv i E' S' → S' a = some (.lck od u kvs)) ∧
    (∀ i k x E' S', kvs[i]? = some (k, x) → i < kvs.length → Pv i E' S' → EvG K G0 g1 (.im (kD k)) E' S' fun E2 S2 => EvG K G0 g2 x E2 S2 fun E3 S3 => EvS K G0 tb E3 S3 ⟨Pv (i + 1), rt, nx, Pv (i + 1)⟩) ∧ ∀ E' S', Pv kvs.length E' S' → nx E' S') :
    EvS K G0 (tFor (iItems te) (gTup K 2 (gCons g1 (gCons g2 gNil))) tb) E S ⟨nx, rt, bk, ct⟩ := m_forD h
theorem n_lock {a : Addr} {kvs : List (Key × MV)} (hS : S a = some (.dct kvs)) (h : ∀ od u, EvS K G0 t E (mup S a (.lck od u kvs)) ⟨fun E' S' => S' a = some (.lck od u kvs) ∧ nx E' (mup S' a (.dct kvs)), fun m S' => S' a = some (.lck od u kvs) ∧ rt m (mup S' a (.dct kvs)), fun E' S' => S' a = some (.lck od u kvs) ∧ bk E' (mup S' a (.dct kvs)), fun E' S' => S' a = some (.lck od u kvs) ∧ ct E' (mup S' a (.dct kvs))⟩) : EvS K G0 (tLock t) E S ⟨nx, rt, bk, ct⟩ := m_lock (N := ⟨nx, rt, bk, ct⟩) hS h
theorem m_ixX {Q : MV → MS → Prop} {x : MV} {ms : List MV} {a : Int} {m : MV} (h1 : LsM S x ms) (e2 : atI ms a = some m) (h : Q m S) : EvR K G0 (rIxL K) x (.im (.int a)) S Q := fun G own H v u R _ Rp vr vu cv => by
  obtain ⟨p, vs, rfl, hp, rv⟩ := h1.at_ Rp vr
  cases vu
  obtain ⟨z, h3, h4⟩ := atI_pair rv e2
  exact ⟨_, _, a, z, rfl, rfl, SqL.of hp, h3, cv _ H G own _ S Ext.rfl' Rp h4 h⟩
theorem m_lenX {Q : MV → MS → Prop} {x : MV} {ms : List MV} (h1 : LsM S x ms) (h : Q (.im (.int ms.length)) S) : EvC K G0 (c_len K) [x] S Q := fun G own H v R _ Rp vr cv => by
  cases vr with
  | cons h2 h3 =>
    cases h3
    obtain ⟨p, vs, rfl, hp, rv⟩ := h1.at_ Rp h2
    exact ⟨_, _, rfl, .inl (SqL.of hp), by rw [Paired.length rv]; exact cv _ H G own _ S Ext.rfl' Rp (vr_int _) h⟩
theorem m_listX {Q : MV → MS → Prop} {x : MV} {ms : List MV} (h1 : LsM S x ms) (h : ∀ p, S p = none → Q (.mu p) (mup S p (.lst ms))) : EvC K G0 (c_list K) [x] S Q := fun G own H v R _ Rp vr cv => by
  cases vr with
  | cons h2 h3 =>
    cases h3
    obtain ⟨p, vs, rfl, hp, rv⟩ := h1.at_ Rp h2
    exact ⟨_, _, rfl, .inl (SqL.of hp), new_lst Rp rv cv h⟩
theorem m_listXI {Q : MV → MS → Prop} {x : MV} {ds : List D} (h1 : LsM S x (ds.map .im)) (h : Q (.im (.lst ds)) S) : EvC K G0 (c_list K) [x] S Q := fun G own H v R _ Rp vr cv => by
  cases vr with
  | cons h2 h3 =>
    cases h3
    obtain ⟨p, vs, rfl, hp, rv⟩ := h1.at_ Rp h2
    exact ⟨_, _, rfl, .inl (SqL.of hp), new_lstI Rp (VRs.ims rv) cv h⟩
theorem m_slXI {Q : MV → MS → Prop} {x : MV} {ds : List D} {lo hi : Option Int} (h1 : LsM S x (ds.map .im)) (h : Q (.im (.lst (cutD ds lo hi))) S) : EvU K G0 (fun v => rSlL K v lo hi) x S Q := fun G own H v R _ Rp vr cv => by
  obtain ⟨p, vs, rfl, hp, rv⟩ := h1.at_ Rp vr
  refine ⟨_, vs, rfl, SqL.of hp, new_lstI Rp ?_ cv h⟩
  have := cut_pair rv lo hi
  rw [cutD_map] at this
  exact VRs.ims this
theorem m_isiX {Q : MV → MS → Prop} {x : MV} {ms : List MV} (h1 : LsM S x ms) (h : Q (.im (.bl true)) S) : EvC K G0 (rIsi K) [x, .ty "list"] S Q := fun G own H v R _ Rp vr cv => by
  cases vr with
  | cons h2 h3 => cases h3 with
    | cons h3 h4 =>
      cases h4; cases h3
      obtain ⟨p, vs, rfl, hp, rv⟩ := h1.at_ Rp h2
      exact ⟨_, _, .type "list", .type "list", true, rfl, .ty "list", .base (.lst hp), kit_ty (by decide +kernel), cv _ H G own _ S Ext.rfl' Rp (vr_bl true) h⟩
/-- items of a list, data or a cell's -/
theorem i_listX {P : Src → MS → Prop} (h : EvE K G0 te E S fun m S1 => ∃ ms, LsM S1 m ms ∧ P ⟨ms.length, fun S => LsM S m ms, fun i x => ms[i]? = some x⟩ S1) : EvI K G0 (iList K te) E S P := fun G own H σ R e Rp r c =>
  h G own H σ _ e Rp r fun v H' G' own' m S' e' R' vr q => by
    obtain ⟨ms, hl, q⟩ := q
    obtain ⟨a, vs, rfl, hp, rv⟩ := hl.at_ R' vr
    refine ⟨a, rfl, ⟨vs, SqL.of hp⟩, c _ H' G' own' S' _ (fun H2 => ∃ ws, H2 a = some (.lst ws) ∧ ws.length = ms.length) (fun i H x H3 => H3 = H ∧ ∃ ws, H a = some (.lst ws) ∧ ws[i]? = some x) e' R' q ⟨?_, ?_, ?_⟩ (fun G2 own2 H2 S2 e2 R2 hc => ?_) fun i H2 x H3 G2 own2 S2 hi e2 R2 hc y => ?_⟩
    · rintro i H2 hi ⟨ws, h1, h2⟩
      have hi' : i < ws.length := by rw [h2]; exact hi
      exact ⟨ws, ws[i], SqL.of h1, by simp [hi']⟩
    · rintro H2 ⟨ws, h1, h2⟩; exact ⟨ws, SqL.of h1, Nat.le_of_eq h2⟩
    · rintro i H2 x H3 hi ⟨ws, h1, h2⟩ y; exact ⟨y.1, ws, h1, y.2 ws (SqL.of h1)⟩
    · obtain ⟨a', ws, ea, hw, rw'⟩ := hc.at_ R2 (vr.ext e2)
      cases ea
      exact ⟨ws, hw, Paired.length rw'⟩
    · obtain ⟨rfl, ws, h1, h2⟩ := y
      obtain ⟨a', ws', ea, hw, rw'⟩ := hc.at_ R2 (vr.ext e2)
      cases ea
      rw [h1] at hw; cases hw
      obtain ⟨b, h3, h4⟩ := Paired.getL rw' h2
      exact ⟨rfl, b, h3, h4⟩
theorem LsM.sub {S S' : MS} {x : MV} {ms : List MV} (h : LsM S x ms) (s : Sub S S') : LsM S' x ms := by
  cases h with
  | im ds => exact .im ds
  | mu h => exact .mu (s _ _ h)
theorem DcM.sub {S S' : MS} {a : Addr} {kvs : List (Key × MV)} (h : DcM S a kvs) (s : Sub S S') : DcM S' a kvs := by
  cases h with
  | d h => exact .d (s _ _ h)
  | l h => exact .l (s _ _ h)
def FldM (K : PySem.W.Frag) (f : Str) (Q : MV → MS → Prop) : MV → MS → Prop := fun x S1 => ∃ a C dx fs m, x = .mu a ∧ S1 a = some (.ins C dx fs) ∧ Cls K C ∧ NoAttr K C f ∧ fs.lookup f = some m ∧ Q m S1
theorem n_fld {Q : MV → MS → Prop} {f : Str} (h : EvE K G0 ta E S fun x S1 => FldM K f Q x S1) : EvE K G0 (tFld K ta f) E S Q := m_fld h
def DgM (Q : MV → MS → Prop) (x y : MV) : MS → Prop := fun S2 => ∃ a z kvs m, x = .mu a ∧ y = .im (.str z) ∧ DcM S2 a kvs ∧ lkM kvs z = some m ∧ Q m S2
theorem n_dget {Q : MV → MS → Prop} {td ty : TE} (h : EvE K G0 td E S fun x S1 => EvE K G0 ty E S1 fun y S2 => DgM Q x y S2) : EvE K G0 (tDGet td ty) E S Q := m_dget h
theorem d_get {Q : MV → MS → Prop} {a : Addr} {z : Str} {kvs : List (Key × MV)} {m : MV} (h : S a = some (.dct kvs)) (hf : lkM kvs z = some m) (q : Q m S) : DgM Q (.mu a) (.im (.str z)) S := ⟨a, z, kvs, m, rfl, rfl, .d h, hf, q⟩
def PkM (P : Option Int → MS → Prop) : MV → MS → Prop := fun m S' => ∃ n, m = .im (.int n) ∧ P (some n) S'
theorem n_part {P : Option Int → MS → Prop} (h : EvE K G0 te E S fun m S' => PkM P m S') : EvO K G0 (tPart te) E S P := m_part h
theorem n_Pk {P : Option Int → MS → Prop} {j : Int} (h : P (some j) S) : PkM P (.im (.int j)) S := ⟨j, rfl, h⟩
end
theorem b_tt {A B : Prop} (h : A) : (true = true → A) ∧ (true = false → B) := ⟨fun _ => h, fun z => nomatch z⟩
theorem b_ff {A B : Prop} (h : B) : (false = true → A) ∧ (false = false → B) := ⟨fun z => (nomatch z), fun _ => h⟩
theorem b_nt {A B : Prop} (h : B) : ((!true) = true → A) ∧ ((!true) = false → B) := ⟨fun z => (nomatch z), fun _ => h⟩
theorem b_nf {A B : Prop} (h : A) : ((!false) = true → A) ∧ ((!false) = false → B) := ⟨fun _ => h, fun z => nomatch z⟩
theorem ne_free {S : MS} {a p : Addr} {o : MO} (hp : S p = none) (ha : S a = some o) : a ≠ p := by rintro rfl; rw [hp] at ha; cases ha
theorem mup_look {S : MS} {a p : Addr} {o u : MO} (ha : S a = some o) (ne : a ≠ p) : mup S p u a = some o := by rw [mup_ne ne]; exact ha
theorem ov_look {S S1 : MS} {a : Addr} {o : MO} (h : S1 a = some o) : ov S S1 a = some o := ov_in h
theorem ls_im {S : MS} {ds : List D} : LsM S (.im (.lst ds)) (ds.map .im) := .im ds
theorem dc_dl {S : MS} {a : Addr} {kvs : List (Key × MV)} {od : Obj} {u : HO} : DcM (mup S a (.lck od u kvs)) a kvs := .l mup_same
theorem kb_NoneType_str : L2.kitB "NoneType" "str" = some false := by decide +kernel
theorem kb_NoneType_int : L2.kitB "NoneType" "int" = some false := by decide +kernel
theorem kb_NoneType_bool : L2.kitB "NoneType" "bool" = some false := by decide +kernel
theorem kb_NoneType_list : L2.kitB "NoneType" "list" = some false := by decide +kernel
theorem kb_NoneType_tuple : L2.kitB "NoneType" "tuple" = some false := by decide +kernel
theorem kb_bool_str : L2.kitB "bool" "str" = some false := by decide +kernel
theorem kb_bool_int : L2.kitB "bool" "int" = some true := by decide +kernel
theorem kb_bool_bool : L2.kitB "bool" "bool" = some true := by decide +kernel
theorem kb_bool_list : L2.kitB "bool" "list" = some false := by decide +kernel
theorem kb_bool_tuple : L2.kitB "bool" "tuple" = some false := by decide +kernel
theorem kb_int_str : L2.kitB "int" "str" = some false := by decide +kernel
theorem kb_int_int : L2.kitB "int" "int" = some true := by decide +kernel
theorem kb_int_bool : L2.kitB "int" "bool" = some false := by decide +kernel
theorem kb_int_list : L2.kitB "int" "list" = some false := by decide +kernel
theorem kb_int_tuple : L2.kitB "int" "tuple" = some false := by decide +kernel
theorem kb_str_str : L2.kitB "str" "str" = some true := by decide +kernel
theorem kb_str_int : L2.kitB "str" "int" = some false := by decide +kernel
theorem kb_str_bool : L2.kitB "str" "bool" = some false := by decide +kernel
theorem kb_str_list : L2.kitB "str" "list" = some false := by decide +kernel
theorem kb_str_tuple : L2.kitB "str" "tuple" = some false := by decide +kernel
theorem kb_list_str : L2.kitB "list" "str" = some false := by decide +kernel
theorem kb_list_int : L2.kitB "list" "int" = some false := by decide +kernel
theorem kb_list_bool : L2.kitB "list" "bool" = some false := by decide +kernel
theorem kb_list_list : L2.kitB "list" "list" = some true := by decide +kernel
theorem kb_list_tuple : L2.kitB "list" "tuple" = some false := by decide +kernel
theorem kb_tuple_str : L2.kitB "tuple" "str" = some false := by decide +kernel
theorem kb_tuple_int : L2.kitB "tuple" "int" = some false := by decide +kernel
theorem kb_tuple_bool : L2.kitB "tuple" "bool" = some false := by decide +kernel
theorem kb_tuple_list : L2.kitB "tuple" "list" = some false := by decide +kernel
theorem kb_tuple_tuple : L2.kitB "tuple" "tuple" = some true := by decide +kernel
theorem kb_str {d : D} (h : notScr d = true) : L2.kitB (tyD d) "str" = some (match d with | .str _ => true | _ => false) := by
  cases d <;> first | (cases h; done) | exact kb_NoneType_str | exact kb_bool_str | exact kb_int_str | exact kb_str_str | exact kb_list_str | exact kb_tuple_str
theorem kb_int {d : D} (h : notScr d = true) : L2.kitB (tyD d) "int" = some (match d with | .int _ => true | .bl _ => true | _ => false) := by
  cases d <;> first | (cases h; done) | exact kb_NoneType_int | exact kb_bool_int | exact kb_int_int | exact kb_str_int | exact kb_list_int | exact kb_tuple_int
theorem kb_bool {d : D} (h : notScr d = true) : L2.kitB (tyD d) "bool" = some (match d with | .bl _ => true | _ => false) := by
  cases d <;> first | (cases h; done) | exact kb_NoneType_bool | exact kb_bool_bool | exact kb_int_bool | exact kb_str_bool | exact kb_list_bool | exact kb_tuple_bool
theorem kb_list {d : D} (h : notScr d = true) : L2.kitB (tyD d) "list" = some (match d with | .lst _ => true | _ => false) := by
  cases d <;> first | (cases h; done) | exact kb_NoneType_list | exact kb_bool_list | exact kb_int_list | exact kb_str_list | exact kb_list_list | exact kb_tuple_list
theorem kb_tuple {d : D} (h : notScr d = true) : L2.kitB (tyD d) "tuple" = some (match d with | .tup _ => true | _ => false) := by
  cases d <;> first | (cases h; done) | exact kb_NoneType_tuple | exact kb_bool_tuple | exact kb_int_tuple | exact kb_str_tuple | exact kb_list_tuple | exact kb_tuple_tuple
end Kr
namespace Kr
open PySem PySem.Spec L2
/-! ### texts in their order -/
def ltS (x y : Str) : Bool := PySem.Spec.ltCps x.cps.toList y.cps.toList
theorem ltS_iff {x y : Str} : ltS x y = true ↔ x.cps.toList < y.cps.toList := by
  unfold ltS
  rw [PyProof.Rows.ltCps_eq, decide_eq_true_iff]
theorem str_ext {x y : Str} (h : x.cps.toList = y.cps.toList) : x = y := by
  cases x; cases y
  congr 1
  exact Array.toList_inj.mp h
theorem ltS_irrefl (x : Str) : ltS x x = false := by
  cases h : ltS x x with
  | false => rfl
  | true => exact absurd (ltS_iff.mp h) (List.lt_irrefl _)
theorem ltS_trans {x y z : Str} (h : ltS x y = true) (k : ltS y z = true) : ltS x z = true := ltS_iff.mpr (List.lt_trans (ltS_iff.mp h) (ltS_iff.mp k))
theorem ltS_tri (x y : Str) : ltS x y = true ∨ x = y ∨ ltS y x = true := by
  by_cases h : x.cps.toList < y.cps.toList
  · exact .inl (ltS_iff.mpr h)
  · by_cases k : y.cps.toList < x.cps.toList
    · exact .inr (.inr (ltS_iff.mpr k))
    · exact .inr (.inl (str_ext (List.le_antisymm (List.not_lt.mp k) (List.not_lt.mp h))))
abbrev SrtS (xs : List Str) : Prop := xs.Pairwise fun a b => ltS a b = true
def insS (x : Str) : List Str → List Str
  | [] => [x]
  | y :: ys => if ltS x y then x :: y :: ys else if x = y then y :: ys else y :: insS x ys
def srt (xs : List Str) : List Str := xs.foldr insS []
theorem mem_insS {x z : Str} : ∀ {ys : List Str}, z ∈ insS x ys ↔ z = x ∨ z ∈ ys
  | [] => by simp [insS]
  | y :: ys => by
    unfold insS
    split
    · simp
    · split
      · next e => subst e; simp
      · rw [List.mem_cons, mem_insS, List.mem_cons]
        constructor
        · rintro (h | h | h)
          · exact .inr (.inl h)
          · exact .inl h
          · exact .inr (.inr h)
        · rintro (h | h | h)
          · exact .inr (.inl h)
          · exact .inl h
          · exact .inr (.inr h)
theorem srt_insS {x : Str} : ∀ {ys : List Str}, SrtS ys → SrtS (insS x ys)
  | [], _ => List.pairwise_singleton _ _
  | y :: ys, h => by
    obtain ⟨h1, h2⟩ := List.pairwise_cons.mp h
    unfold insS
    split
    · next l =>
      refine List.pairwise_cons.mpr ⟨fun z hz => ?_, h⟩
      rcases List.mem_cons.mp hz with rfl | hz
      · exact l
      · exact ltS_trans l (h1 z hz)
    · next l =>
      split
      · exact h
      · next e =>
        refine List.pairwise_cons.mpr ⟨fun z hz => ?_, srt_insS h2⟩
        rcases mem_insS.mp hz with rfl | hz
        · rcases ltS_tri z y with k | k | k
          · exact absurd k l
          · exact absurd k e
          · exact k
        · exact h1 z hz
theorem srt_srt (xs : List Str) : SrtS (srt xs) := by
  induction xs with
  | nil => exact .nil
  | cons x xs ih => exact srt_insS ih
theorem mem_srt {xs : List Str} {z : Str} : z ∈ srt xs ↔ z ∈ xs := by
  induction xs with
  | nil => exact Iff.rfl
  | cons x xs ih =>
    show z ∈ insS x (srt xs) ↔ _
    rw [mem_insS, ih, List.mem_cons]
theorem srt_uniq : ∀ {xs ys : List Str}, SrtS xs → SrtS ys → (∀ z, z ∈ xs ↔ z ∈ ys) → xs = ys
  | [], [], _, _, _ => rfl
  | [], y :: ys, _, _, h => absurd ((h y).mpr List.mem_cons_self) (by simp)
  | x :: xs, [], _, _, h => absurd ((h x).mp List.mem_cons_self) (by simp)
  | x :: xs, y :: ys, h1, h2, h => by
    obtain ⟨a1, b1⟩ := List.pairwise_cons.mp h1
    obtain ⟨a2, b2⟩ := List.pairwise_cons.mp h2
    have e : x = y := by
      rcases List.mem_cons.mp ((h x).mp List.mem_cons_self) with e | hx
      · exact e
      · rcases List.mem_cons.mp ((h y).mpr List.mem_cons_self) with e | hy
        · exact e.symm
        · have := ltS_trans (a1 y hy) (a2 x hx)
          rw [ltS_irrefl] at this
          cases this
    subst e
    congr 1
    refine srt_uniq b1 b2 fun z => ⟨fun hz => ?_, fun hz => ?_⟩
    · rcases List.mem_cons.mp ((h z).mp (List.mem_cons_of_mem _ hz)) with rfl | k
      · have := a1 z hz
        rw [ltS_irrefl] at this
        cases this
      · exact k
    · rcases List.mem_cons.mp ((h z).mpr (List.mem_cons_of_mem _ hz)) with rfl | k
      · have := a2 z hz
        rw [ltS_irrefl] at this
        cases this
      · exact k
theorem srt_cong {xs ys : List Str} (h : ∀ z, z ∈ xs ↔ z ∈ ys) : srt xs = srt ys := srt_uniq (srt_srt xs) (srt_srt ys) fun z => by rw [mem_srt, mem_srt, h]
theorem rising_pair {p : Str} : ∀ {xs : List Str}, PyProof.Rows.risingS p xs = true → (p :: xs).Pairwise fun a b => ltS b a = false
  | [], _ => List.pairwise_singleton _ _
  | x :: xs, h => by
    unfold PyProof.Rows.risingS at h
    rw [Bool.and_eq_true_iff] at h
    have ih := rising_pair h.2
    refine List.pairwise_cons.mpr ⟨fun z hz => ?_, ih⟩
    have hx : ltS x p = false := by simpa [ltS] using h.1
    rcases List.mem_cons.mp hz with rfl | hz
    · exact hx
    · have k := (List.pairwise_cons.mp ih).1 z hz
      cases e : ltS z p with
      | false => rfl
      | true =>
        rcases ltS_tri x z with t | t | t
        · have := ltS_trans t e
          rw [hx] at this
          cases this
        · subst t
          rw [hx] at e
          cases e
        · rw [k] at t
          cases t
theorem sorted_pair {xs : List Str} (h : PyProof.Rows.sortedS xs = true) : xs.Pairwise fun a b => ltS b a = false := by
  cases xs with
  | nil => exact .nil
  | cons x xs => exact rising_pair h
theorem sorted_strict {xs : List Str} (h : PyProof.Rows.sortedS xs = true) (n : xs.Nodup) : SrtS xs := by
  refine ((sorted_pair h).and n).imp fun {a b} ⟨h1, h2⟩ => ?_
  rcases ltS_tri a b with k | k | k
  · exact k
  · exact absurd k h2
  · rw [h1] at k; cases k
theorem sortedOf_srt {ys xs : List Str} (h : SortedOf ys xs) : ys = srt xs := srt_uniq (sorted_strict h.1 h.2.1) (srt_srt xs) fun z => by rw [h.2.2, mem_srt]
theorem sortedPerm_srt {ys xs : List Str} (p : ys.Perm xs) (h : PyProof.Rows.sortedS ys = true) (n : xs.Nodup) : ys = srt xs := sortedOf_srt ⟨h, p.nodup_iff.mpr n, fun k => p.mem_iff⟩
theorem srt_len (xs : List Str) : (srt xs).length ≤ xs.length := by
  have h : ∀ (x : Str) (ys : List Str), (insS x ys).length ≤ ys.length + 1 := by
    intro x ys
    induction ys with
    | nil => exact Nat.le_refl _
    | cons y ys ih =>
      unfold insS
      split
      · exact Nat.le_refl _
      · split
        · exact Nat.le_succ _
        · simp only [List.length_cons]; omega
  induction xs with
  | nil => exact Nat.le_refl _
  | cons x xs ih => exact Nat.le_trans (h x (srt xs)) (Nat.add_le_add_right ih 1)
end Kr
namespace Kr
open PySem PySem.Spec L2
/-! ### lists of pairs by names -/
section
variable {α β : Type}
def getA (d : List (Str × α)) (n : Str) : Option α := (d.find? fun p => decide (p.1 = n)).map (·.2)
def putA (d : List (Str × α)) (n : Str) (v : α) : List (Str × α) :=
  if (d.any fun p => decide (p.1 = n)) = true then d.map (fun p => if p.1 = n then (p.1, v) else p) else d ++ [(n, v)]
def mergeA (d e : List (Str × α)) : List (Str × α) := e.foldl (fun acc p => putA acc p.1 p.2) d
def lastA (ps : List (Str × α)) : List (Str × α) := mergeA [] ps
abbrev keysA (d : List (Str × α)) : List Str := d.map (·.1)
theorem getA_nil {n : Str} : getA ([] : List (Str × α)) n = none := rfl
theorem getA_cons {p : Str × α} {d : List (Str × α)} {n : Str} : getA (p :: d) n = if p.1 = n then some p.2 else getA d n := by
  unfold getA
  rw [List.find?_cons]
  by_cases h : p.1 = n <;> simp [h]
theorem getA_isSome {d : List (Str × α)} {n : Str} : (getA d n).isSome = (d.any fun p => decide (p.1 = n)) := by
  induction d with
  | nil => rfl
  | cons p d ih => rw [getA_cons, List.any_cons, ← ih]; by_cases h : p.1 = n <;> simp [h]
theorem getA_mem {d : List (Str × α)} {n : Str} : (getA d n).isSome = true ↔ n ∈ keysA d := by
  rw [getA_isSome, List.any_eq_true]
  simp [keysA]
theorem getA_none {d : List (Str × α)} {n : Str} : getA d n = none ↔ n ∉ keysA d := by
  rw [← getA_mem]; cases getA d n <;> simp
theorem getA_in {d : List (Str × α)} {n : Str} {v : α} (h : getA d n = some v) : (n, v) ∈ d := by
  induction d with
  | nil => cases h
  | cons p d ih =>
    rw [getA_cons] at h
    by_cases e : p.1 = n
    · rw [if_pos e] at h; cases h; rw [← e]; exact List.mem_cons_self
    · rw [if_neg e] at h; exact List.mem_cons_of_mem _ (ih h)
theorem getA_app {d e : List (Str × α)} {n : Str} : getA (d ++ e) n = (getA d n).or (getA e n) := by
  induction d with
  | nil => rfl
  | cons p d ih => rw [List.cons_append, getA_cons, getA_cons, ih]; by_cases h : p.1 = n <;> simp [h]
theorem getA_mapSet {d : List (Str × α)} {n m : Str} {v : α} : getA (d.map fun p => if p.1 = n then (p.1, v) else p) m = if n = m then (getA d m).map fun _ => v else getA d m := by
  induction d with
  | nil => by_cases h : n = m <;> simp [h, getA_nil]
  | cons p d ih =>
    rw [List.map_cons, getA_cons, getA_cons, ih]
    by_cases h1 : p.1 = n <;> by_cases h2 : n = m <;> by_cases h3 : p.1 = m <;> simp_all
theorem getA_put {d : List (Str × α)} {n m : Str} {v : α} : getA (putA d n v) m = if n = m then some v else getA d m := by
  unfold putA
  by_cases h : (d.any fun p => decide (p.1 = n)) = true
  · rw [if_pos h, getA_mapSet]
    by_cases e : n = m
    · subst e
      rw [if_pos rfl, if_pos rfl]
      rw [← getA_isSome] at h
      cases q : getA d n with
      | none => rw [q] at h; cases h
      | some x => rfl
    · rw [if_neg e, if_neg e]
  · rw [if_neg h, getA_app, getA_cons, getA_nil]
    rw [← getA_isSome] at h
    by_cases e : n = m
    · subst e
      cases q : getA d n with
      | none => simp
      | some x => rw [q] at h; simp at h
    · simp [e]
theorem mem_keys_put {d : List (Str × α)} {n m : Str} {v : α} : m ∈ keysA (putA d n v) ↔ m = n ∨ m ∈ keysA d := by
  rw [← getA_mem, getA_put, ← getA_mem]
  by_cases e : n = m
  · subst e; simp
  · rw [if_neg e]; simp [Ne.symm e]
theorem keys_mapSet {d : List (Str × α)} {n : Str} {v : α} : keysA (d.map fun p => if p.1 = n then (p.1, v) else p) = keysA d := by
  unfold keysA
  rw [List.map_map]
  refine List.map_congr_left fun p _ => ?_
  simp only [Function.comp]
  split <;> rfl
theorem nodup_put {d : List (Str × α)} {n : Str} {v : α} (h : (keysA d).Nodup) : (keysA (putA d n v)).Nodup := by
  unfold putA
  by_cases e : (d.any fun p => decide (p.1 = n)) = true
  · rw [if_pos e, keys_mapSet]; exact h
  · rw [if_neg e]
    have : n ∉ keysA d := by rw [← getA_mem, getA_isSome]; exact e
    unfold keysA at *
    rw [List.map_append]
    refine List.nodup_append.mpr ⟨h, by simp, fun a ha b hb q => ?_⟩
    simp at hb
    subst q; subst hb
    exact this ha
theorem length_put {d : List (Str × α)} {n : Str} {v : α} : (putA d n v).length ≤ d.length + 1 := by
  unfold putA
  split
  · simp
  · simp
theorem mergeA_nil {d : List (Str × α)} : mergeA d [] = d := rfl
theorem mergeA_cons {d e : List (Str × α)} {p : Str × α} : mergeA d (p :: e) = mergeA (putA d p.1 p.2) e := rfl
theorem mergeA_app {d e f : List (Str × α)} : mergeA d (e ++ f) = mergeA (mergeA d e) f := List.foldl_append
theorem lastA_snoc {ps : List (Str × α)} {p : Str × α} : lastA (ps ++ [p]) = putA (lastA ps) p.1 p.2 := by unfold lastA; rw [mergeA_app]; rfl
theorem nodup_merge {e : List (Str × α)} : ∀ {d : List (Str × α)}, (keysA d).Nodup → (keysA (mergeA d e)).Nodup := by
  induction e with
  | nil => exact fun h => h
  | cons p e ih => exact fun h => ih (nodup_put h)
theorem nodup_last (ps : List (Str × α)) : (keysA (lastA ps)).Nodup := nodup_merge List.nodup_nil
theorem mem_keys_merge {e : List (Str × α)} {m : Str} : ∀ {d : List (Str × α)}, m ∈ keysA (mergeA d e) ↔ m ∈ keysA d ∨ m ∈ keysA e := by
  induction e with
  | nil => intro d; simp [mergeA_nil]
  | cons p e ih =>
    intro d
    rw [mergeA_cons, ih, mem_keys_put]
    simp only [keysA, List.map_cons, List.mem_cons]
    constructor
    · rintro ((h | h) | h)
      · exact .inr (.inl h)
      · exact .inl h
      · exact .inr (.inr h)
    · rintro (h | h | h)
      · exact .inl (.inr h)
      · exact .inl (.inl h)
      · exact .inr h
theorem mem_keys_last {ps : List (Str × α)} {m : Str} : m ∈ keysA (lastA ps) ↔ m ∈ keysA ps := by
  unfold lastA; rw [mem_keys_merge]; simp [keysA]
theorem length_merge {e : List (Str × α)} : ∀ {d : List (Str × α)}, (mergeA d e).length ≤ d.length + e.length := by
  induction e with
  | nil => intro d; exact Nat.le_refl _
  | cons p e ih => intro d; rw [mergeA_cons]; have h1 := ih (d := putA d p.1 p.2); have h2 := length_put (d := d) (n := p.1) (v := p.2); rw [List.length_cons]; omega
theorem length_last (ps : List (Str × α)) : (lastA ps).length ≤ ps.length := by have := length_merge (d := []) (e := ps); simpa [lastA] using this
theorem getA_merge {e : List (Str × α)} {m : Str} : ∀ {d : List (Str × α)}, getA (mergeA d e) m = (getA (lastA e) m).or (getA d m) := by
  have key : ∀ (e : List (Str × α)) (d : List (Str × α)), getA (mergeA d e) m = (getA e.reverse m).or (getA d m) := by
    intro e
    induction e with
    | nil => intro d; simp [mergeA_nil, getA_nil]
    | cons p e ih =>
      intro d
      rw [mergeA_cons, ih, getA_put, List.reverse_cons, getA_app, getA_cons, getA_nil]
      cases getA e.reverse m with
      | some v => simp
      | none => by_cases h : p.1 = m <;> simp [h]
  intro d
  rw [key e d, show getA (lastA e) m = getA e.reverse m by unfold lastA; rw [key e [], getA_nil]; simp]
theorem getA_last_rev {e : List (Str × α)} {m : Str} : getA (lastA e) m = getA e.reverse m := by
  have key : ∀ (e : List (Str × α)) (d : List (Str × α)), getA (mergeA d e) m = (getA e.reverse m).or (getA d m) := by
    intro e
    induction e with
    | nil => intro d; simp [mergeA_nil, getA_nil]
    | cons p e ih =>
      intro d
      rw [mergeA_cons, ih, getA_put, List.reverse_cons, getA_app, getA_cons, getA_nil]
      cases getA e.reverse m with
      | some v => simp
      | none => by_cases h : p.1 = m <;> simp [h]
  unfold lastA; rw [key e [], getA_nil]; simp
theorem mem_put {d : List (Str × α)} {n : Str} {v : α} {p : Str × α} (h : p ∈ putA d n v) : p ∈ d ∨ p = (n, v) := by
  unfold putA at h
  split at h
  · obtain ⟨q, hq, rfl⟩ := List.mem_map.mp h
    by_cases e : q.1 = n
    · rw [if_pos e, e]; exact .inr rfl
    · rw [if_neg e]; exact .inl hq
  · rcases List.mem_append.mp h with h | h
    · exact .inl h
    · exact .inr (List.mem_singleton.mp h)
theorem mem_merge {e : List (Str × α)} {p : Str × α} : ∀ {d : List (Str × α)}, p ∈ mergeA d e → p ∈ d ∨ p ∈ e := by
  induction e with
  | nil => exact fun h => .inl h
  | cons q e ih =>
    intro d h
    rcases ih h with h | h
    · rcases mem_put h with h | h
      · exact .inl h
      · exact .inr (h ▸ List.mem_cons_self)
    · exact .inr (List.mem_cons_of_mem _ h)
theorem mem_last {ps : List (Str × α)} {p : Str × α} (h : p ∈ lastA ps) : p ∈ ps := by
  rcases mem_merge h with h | h
  · cases h
  · exact h
theorem getA_of_mem {d : List (Str × α)} {p : Str × α} (hn : (keysA d).Nodup) (h : p ∈ d) : getA d p.1 = some p.2 := by
  induction d with
  | nil => cases h
  | cons q d ih =>
    rw [getA_cons]
    have hn' := List.nodup_cons.mp (show (q.1 :: keysA d).Nodup from hn)
    rcases List.mem_cons.mp h with rfl | h
    · rw [if_pos rfl]
    · have : ¬ q.1 = p.1 := fun e => hn'.1 (e ▸ List.mem_map.mpr ⟨p, h, rfl⟩)
      rw [if_neg this]; exact ih hn'.2 h
/-! as the cells have them -/
def kvF (f : α → MV) (d : List (Str × α)) : List (Key × MV) := d.map fun p => (Sum.inr p.1, f p.2)
theorem lkM_kvF {f : α → MV} {d : List (Str × α)} {n : Str} : lkM (kvF f d) n = (getA d n).map f := by
  unfold lkM valM kvF getA
  induction d with
  | nil => rfl
  | cons p d ih =>
    rw [List.map_cons, List.find?_cons, List.find?_cons]
    by_cases h : p.1 = n
    · simp [h]
    · have : ¬ (Sum.inr p.1 : Key) = Sum.inr n := fun e => h (Sum.inr.inj e)
      rw [decide_eq_false h, decide_eq_false this]; exact ih
theorem putM_kvF {f : α → MV} {d : List (Str × α)} {n : Str} {v : α} : putM (kvF f d) (.inr n) (f v) = kvF f (putA d n v) := by
  have e : ((kvF f d).any fun kv => decide (kv.1 = (Sum.inr n : Key))) = d.any fun p => decide (p.1 = n) := by
    unfold kvF
    rw [List.any_map]
    congr 1
    funext p
    simp only [Function.comp]
    by_cases h : p.1 = n
    · simp [h]
    · have : ¬ (Sum.inr p.1 : Key) = Sum.inr n := fun e => h (Sum.inr.inj e)
      rw [decide_eq_false h, decide_eq_false this]
  unfold putM putA
  rw [e]
  split
  · unfold kvF
    rw [List.map_map, List.map_map]
    refine List.map_congr_left fun p _ => ?_
    simp only [Function.comp]
    by_cases h : p.1 = n
    · simp [h]
    · have : ¬ (Sum.inr p.1 : Key) = Sum.inr n := fun e => h (Sum.inr.inj e)
      rw [if_neg h, if_neg this]
  · unfold kvF; rw [List.map_append]; rfl
theorem mergeM_kvF {f : α → MV} {e : List (Str × α)} : ∀ {d : List (Str × α)}, mergeM (kvF f d) (kvF f e) = kvF f (mergeA d e) := by
  induction e with
  | nil => intro d; rfl
  | cons p e ih =>
    intro d
    rw [mergeA_cons, ← ih, ← putM_kvF]; rfl
theorem kvF_len {f : α → MV} {d : List (Str × α)} : (kvF f d).length = d.length := List.length_map _
theorem kvF_keys {f : α → MV} {d : List (Str × α)} : (kvF f d).map (·.1) = (keysA d).map Sum.inr := by unfold kvF keysA; rw [List.map_map, List.map_map]; rfl
theorem kvF_kD {f : α → MV} {d : List (Str × α)} : ((kvF f d).map fun kv => kD kv.1) = dStrs (keysA d) := by unfold kvF keysA dStrs; rw [List.map_map, List.map_map]; rfl
theorem kvF_get {f : α → MV} {d : List (Str × α)} {i : Nat} {k : Key} {m : MV} (h : (kvF f d)[i]? = some (k, m)) : ∃ p, d[i]? = some p ∧ k = .inr p.1 ∧ m = f p.2 := by
  unfold kvF at h
  rw [List.getElem?_map] at h
  cases e : d[i]? with
  | none => rw [e] at h; cases h
  | some p => rw [e] at h; cases h; exact ⟨p, rfl, rfl, rfl⟩
end
/-! ### values, names -/
abbrev Val := Option Int
def valD : Val → D
  | none => .non
  | some i => .int i
abbrev vM (v : Val) : MV := .im (valD v)
abbrev Puts := List (Str × Val)
def pairD (p : Str × Val) : D := .tup [.str p.1, valD p.2]
def pairsD (ps : Puts) : List D := ps.map pairD
abbrev kvV (d : Puts) : List (Key × MV) := kvF vM d
theorem isN_val (v : Val) : isN (vM v) = decide (v = none) := by cases v <;> rfl
theorem eqS_val (v u : Val) : eqS (valD v) (valD u) = decide (v = u) := by cases v <;> cases u <;> simp [eqS, valD]
theorem sca_val (v u : Val) : sca (valD v) (valD u) = true := by cases v <;> cases u <;> rfl
theorem valD_inj {v u : Val} (h : valD v = valD u) : v = u := by cases v <;> cases u <;> simp_all [valD]
def SIGNS : List Nat := ("abcdefghijklmnopqrstuvwxyz0123456789." : Str).cps.toList
def signsOk (z : Str) : Bool := z.cps.toList.all fun c => decide (c ∈ SIGNS)
def NameOk (z : Str) : Prop := signsOk z = true ∧ 1 ≤ z.length ∧ z.length ≤ 12
def HeadOk (z : Str) : Prop := signsOk z = true ∧ z.length ≤ 12
def ValOk : Val → Prop
  | none => True
  | some i => -(10 ^ 30) ≤ i ∧ i ≤ 10 ^ 30
def underB (n h : Str) : Bool := decide (cutS n none (some (h.length : Int)) = h)
theorem NameOk.head {z : Str} (h : NameOk z) : HeadOk z := ⟨h.1, h.2.2⟩
theorem len1 (c : Nat) : (⟨#[c]⟩ : Str).length = 1 := rfl
theorem signsOk_append {x y : Str} (hx : signsOk x = true) (hy : signsOk y = true) : signsOk (x ++ y) = true := by
  unfold signsOk at *
  rw [Str.cps_append, Array.toList_append, List.all_append, hx, hy]; rfl
theorem signsOk_one {c : Nat} (h : c ∈ SIGNS) : signsOk ⟨#[c]⟩ = true := by
  unfold signsOk
  simp [h]
theorem signsOk_cut {z : Str} {lo hi : Option Int} (h : signsOk z = true) : signsOk (cutS z lo hi) = true := by
  unfold signsOk cutS at *
  rw [List.all_eq_true] at *
  intro c hc
  exact h c (List.mem_of_mem_drop (List.mem_of_mem_take (by simpa using hc)))
theorem cut_len (z : Str) (lo hi : Option Int) : (cutS z lo hi).length = min (HT.sIx z.length z.length hi - HT.sIx z.length 0 lo) (z.length - HT.sIx z.length 0 lo) := by
  have e : z.length = z.cps.toList.length := by unfold Str.length; simp
  unfold cutS
  show (List.toArray _).size = _
  rw [List.size_toArray, List.length_take, List.length_drop, ← e]
theorem pre_len (z : Str) (k : Nat) : (cutS z none (some (k : Int))).length = min k z.length := by
  rw [cut_len, HT.sIx_none, HT.sIx_nat]; omega
theorem suf_len (z : Str) (k : Nat) : (cutS z (some (k : Int)) none).length = z.length - k := by
  rw [cut_len, HT.sIx_none, HT.sIx_nat]; omega
theorem atI_nat {α : Type} {xs : List α} {k : Nat} : atI xs (k : Int) = xs[k]? := by
  unfold atI ixN
  rw [if_pos (Int.natCast_nonneg k)]
  by_cases h : k < xs.length
  · rw [if_pos (by omega)]; rfl
  · rw [if_neg (by omega)]; simp; omega
theorem cutD_pre {α : Type} (xs : List α) (k : Nat) : cutD xs none (some (k : Int)) = xs.take k := by
  unfold cutD
  rw [HT.sIx_none, HT.sIx_nat, List.drop_zero, Nat.sub_zero]
  by_cases h : k ≤ xs.length
  · rw [Nat.min_eq_left h]
  · rw [Nat.min_eq_right (by omega), List.take_of_length_le (Nat.le_refl _), List.take_of_length_le (by omega)]
theorem cutD_suf {α : Type} (xs : List α) (k : Nat) : cutD xs (some (k : Int)) none = xs.drop k := by
  unfold cutD
  rw [HT.sIx_none, HT.sIx_nat, List.take_of_length_le (by rw [List.length_drop]; exact Nat.le_refl _)]
  by_cases h : k ≤ xs.length
  · rw [Nat.min_eq_left h]
  · rw [Nat.min_eq_right (by omega), List.drop_of_length_le (Nat.le_refl _), List.drop_of_length_le (by omega)]
theorem atI_neg1 {α : Type} {xs : List α} {x : α} : atI (xs ++ [x]) (-1) = some x := by
  unfold atI ixN
  rw [if_neg (by decide), if_pos (by simp; omega)]
  rw [show ((-1 : Int) + ((xs ++ [x]).length : Nat)).toNat = xs.length by simp; omega]
  simp
/-! ### what names tell -/
def readA (left own : Puts) (n : Str) : Val := (getA own n).getD ((getA left n).getD none)
def selA (ns : List Str) (f : Str → Val) : Puts := ns.filterMap fun n => if f n = none then none else some (n, f n)
def underA (left own : Puts) (h : Str) : Puts := selA ((srt (keysA left ++ keysA own)).filter fun n => underB n h) (readA left own)
end Kr
/-! ### one step of a reading, over data and cells -/
open PySem PySem.Spec L2
local macro_rules | `(tactic| walk_at "ne") => `(tactic| first | assumption | exact Ne.symm (by assumption) | (refine' Kr.ne_free ?h1 ?h2; (case h1 => assumption); (case h2 => walk_at "st")) | (refine' Ne.symm (Kr.ne_free ?h1 ?h2); (case h1 => assumption); (case h2 => walk_at "st")))
local macro_rules | `(tactic| walk_at "st") => `(tactic| with_reducible first | assumption | exact Kr.mup_same | (refine' Kr.mup_look ?h1 ?h2; (case h1 => walk_at "st"); (case h2 => walk_at "ne")) | (refine' Kr.ov_look ?h1; (case h1 => walk_at "st")))
local macro_rules | `(tactic| walk_at "ls") => `(tactic| with_reducible first | exact Kr.ls_im | (refine' Kr.LsM.mu ?h1; (case h1 => walk_at "st")))
local macro_rules | `(tactic| walk_at "dc") => `(tactic| with_reducible first | (refine' Kr.DcM.d ?h1; (case h1 => walk_at "st")) | (refine Kr.DcM.l ?_; walk_at "st"))
local macro_rules | `(tactic| walk_at "md1") => `(tactic| with_reducible first
  | refine Kr.n_seq ?_ | refine Kr.n_next ?_ | refine Kr.n_asg ?_ | refine Kr.n_asgT ?_ | refine Kr.n_drop ?_ | refine Kr.n_ret ?_ | refine Kr.n_retN ?_ | refine Kr.n_if ?_ | refine Kr.n_brk ?_ | refine Kr.n_cont ?_
  | refine Kr.m_cI ?_ | refine Kr.m_cS ?_ | refine Kr.m_cB ?_ | refine Kr.m_cN ?_ | refine Kr.m_cT ?_ | refine Kr.m_cR ?_
  | refine Kr.m_op ?_ | refine Kr.m_un ?_ | refine Kr.m_chain ?_ | refine Kr.m_test ?_ | refine Kr.m_B ?_ | refine Kr.m_bl ?_ | refine Kr.m_bl2 ?_
  | refine Kr.m_and ?_ | refine Kr.m_or ?_ | refine Kr.m_not ?_ | refine Kr.m_andV ?_ | refine Kr.m_orV ?_ | refine Kr.m_notV ?_
  | refine Kr.m_cons ?_ | refine Kr.m_nil ?_ | refine Kr.m_CB ?_ | refine Kr.m_call0 ?_ | refine Kr.m_sl ?_ | refine Kr.m_noPart ?_ | refine Kr.n_part ?_ | refine Kr.n_Pk ?_
  | refine Kr.m_add ?_ | refine Kr.m_sub ?_ | refine Kr.m_lt ?_ | refine Kr.m_le ?_ | refine Kr.m_gt ?_ | refine Kr.m_ge ?_ | refine Kr.m_neg ?_ | refine Kr.m_eqI ?_ | refine Kr.m_neI ?_ | refine Kr.m_eqS ?_ | refine Kr.m_neS ?_ | refine Kr.m_isN ?_ | refine Kr.m_notN ?_
  | refine Kr.m_min2 ?_ | refine Kr.m_max2 ?_ | refine Kr.m_yes ?_ | refine Kr.m_intB ?_
  | refine Kr.n_dput ?_ | refine Kr.n_dget ?_ | refine Kr.m_din ?_ | refine Kr.m_dni ?_ | refine Kr.n_sfld ?_ | refine Kr.n_fld ?_
  | refine Kr.g_cons ?_ | refine Kr.g_nil ?_ | refine Kr.g_name ?_ | refine Kr.b_tt ?_ | refine Kr.b_ff ?_ | refine Kr.b_nt ?_ | refine Kr.b_nf ?_
  | refine Kr.m_lenI ?_ | refine Kr.m_lenT ?_ | refine Kr.m_lenScr ?_ | refine Kr.m_slI ?_ | refine Kr.m_slScr ?_)
local macro_rules | `(tactic| walk_at "md2") => `(tactic| with_reducible first
  | (refine' Kr.m_var ?hv ?_; (case hv => k_dflt exact rfl))
  | (refine' Kr.m_mul ?hv ?_; (case hv => k_dflt first | exact Or.inr ⟨by omega, by omega⟩ | exact Or.inl ⟨by omega, by omega⟩))
  | (refine' Kr.m_div ?hv ?_; (case hv => k_dflt exact ⟨by omega, by omega⟩))
  | (refine' Kr.m_mod ?hv ?_; (case hv => k_dflt first | decide | omega))
  | (refine' Kr.m_isi ?hv ?hw ?_; (case hv => k_dflt exact rfl); (case hw => k_dflt first | exact Kr.kb_NoneType_str | exact Kr.kb_NoneType_int | exact Kr.kb_NoneType_bool | exact Kr.kb_NoneType_list | exact Kr.kb_NoneType_tuple | exact Kr.kb_bool_str | exact Kr.kb_bool_int | exact Kr.kb_bool_bool | exact Kr.kb_bool_list | exact Kr.kb_bool_tuple | exact Kr.kb_int_str | exact Kr.kb_int_int | exact Kr.kb_int_bool | exact Kr.kb_int_list | exact Kr.kb_int_tuple | exact Kr.kb_str_str | exact Kr.kb_str_int | exact Kr.kb_str_bool | exact Kr.kb_str_list | exact Kr.kb_str_tuple | exact Kr.kb_list_str | exact Kr.kb_list_int | exact Kr.kb_list_bool | exact Kr.kb_list_list | exact Kr.kb_list_tuple | exact Kr.kb_tuple_str | exact Kr.kb_tuple_int | exact Kr.kb_tuple_bool | exact Kr.kb_tuple_list | exact Kr.kb_tuple_tuple))
  | (refine' Kr.m_isiM ?hv ?hw ?_; (case hv => walk_at "st"); (case hw => k_dflt first | exact Kr.kb_list_list | exact Kr.kb_list_str | exact Kr.kb_list_int | exact Kr.kb_list_bool | exact Kr.kb_list_tuple))
  | (refine' Kr.m_lenM ?hv ?_; (case hv => walk_at "st"))
  | (refine' Kr.m_ixT ?hv ?_; (case hv => k_dflt exact rfl))
  | (refine' Kr.m_ixTM ?hv ?hw ?_; (case hv => walk_at "st"); (case hw => k_dflt exact rfl))
  | (refine' Kr.g_tupI ?hv ?_; (case hv => k_dflt exact rfl))
  | (refine' Kr.g_tupM ?hv ?hw ?_; (case hv => walk_at "st"); (case hw => k_dflt exact rfl)))
local macro_rules | `(tactic| walk_at "md") => `(tactic| repeat (first | walk_at "md1" | walk_at "md2"))
local macro_rules | `(tactic| walk_at "s0") => `(tactic| simp only [Kr.startM, List.map_cons, List.map_nil, List.length_cons, List.length_nil, Nat.reduceAdd, Nat.reduceSub, List.replicate_succ, List.replicate_zero, List.cons_append, List.nil_append, List.append_nil, Nat.zero_add])
set_option maxHeartbeats 1000000
namespace Kr
open PySem PySem.Spec L2
/-! ### the program's names; the laws' helpers -/
def headD : D → Bool
  | .str z => decide (z.length ≤ 12) && signsOk z
  | _ => false
def nameD : D → Bool
  | .str z => decide (z.length ≤ 12) && signsOk z && !decide (z = "")
  | _ => false
def wholeD : D → Bool
  | .int _ => true
  | _ => false
def valueD : D → Bool
  | .non => true
  | .int i => decide (-(10 ^ 30) ≤ i) && decide (i ≤ 10 ^ 30)
  | _ => false
/-- what may be handed in -/
def okIn : D → Prop
  | .str z => z.length ≤ 60000
  | .scr _ => False
  | _ => True
theorem okIn.scr {d : D} (h : okIn d) : notScr d = true := by cases d <;> first | rfl | exact h.elim
def mp_is_head : Mp := fun ms S Q _ => ∃ d, ms = [.im d] ∧ okIn d ∧ Q (.im (.bl (headD d))) S
def mp_is_name : Mp := fun ms S Q _ => ∃ d, ms = [.im d] ∧ okIn d ∧ Q (.im (.bl (nameD d))) S
def mp_is_whole : Mp := fun ms S Q _ => ∃ d, ms = [.im d] ∧ okIn d ∧ Q (.im (.bl (wholeD d))) S
def mp_is_value : Mp := fun ms S Q _ => ∃ d, ms = [.im d] ∧ okIn d ∧ Q (.im (.bl (valueD d))) S
def mp_is_under : Mp := fun ms S Q _ => ∃ n h : Str, ms = [.im (.str n), .im (.str h)] ∧ n.length ≤ 60000 ∧ h.length ≤ 60000 ∧ Q (.im (.bl (underB n h))) S
abbrev sp_is_head (_ : Program) (_ : World) (K : PySem.W.Frag) : Sp := lift K mp_is_head
abbrev sp_is_name (_ : Program) (_ : World) (K : PySem.W.Frag) : Sp := lift K mp_is_name
abbrev sp_is_whole (_ : Program) (_ : World) (K : PySem.W.Frag) : Sp := lift K mp_is_whole
abbrev sp_is_value (_ : Program) (_ : World) (K : PySem.W.Frag) : Sp := lift K mp_is_value
abbrev sp_is_under (_ : Program) (_ : World) (K : PySem.W.Frag) : Sp := lift K mp_is_under
section
variable {P : Program} {w : World} {K : PySem.W.Frag} {vs : List V} {H : Hp} {Q : VK} {E : XK}
theorem len_is_head (h : sp_is_head P w K vs H Q E) : vs.length = 1 := lift_len (by rintro ms S mQ mX ⟨_, rfl, _⟩; rfl) h
theorem len_is_name (h : sp_is_name P w K vs H Q E) : vs.length = 1 := lift_len (by rintro ms S mQ mX ⟨_, rfl, _⟩; rfl) h
theorem len_is_whole (h : sp_is_whole P w K vs H Q E) : vs.length = 1 := lift_len (by rintro ms S mQ mX ⟨_, rfl, _⟩; rfl) h
theorem len_is_value (h : sp_is_value P w K vs H Q E) : vs.length = 1 := lift_len (by rintro ms S mQ mX ⟨_, rfl, _⟩; rfl) h
theorem len_is_under (h : sp_is_under P w K vs H Q E) : vs.length = 2 := lift_len (by rintro ms S mQ mX ⟨_, _, rfl, _⟩; rfl) h
end
def t_is_head (P : Program) (w : World) (K : PySem.W.Frag) : TS :=
  (tSeq (tIfS (tOr (tNot (tB (tCB (rIsi K) (tCons (tVar 0) (tCons (tC (.ty "str")) tNil))))) (tTest (tOp r_gt (tCB c_lenS (tCons (tVar 0) tNil)) (tC (.int 12))))) (tRet (tC (.bl false))) tNext) (tSeq (tFor (iStr (tVar 0)) (gName 1) (tIfS (tTest (tOp r_niC (tVar 1) (tC (.str "abcdefghijklmnopqrstuvwxyz0123456789.")))) (tRet (tC (.bl false))) tNext)) (tRet (tC (.bl true)))))

def t_is_name (P : Program) (w : World) (K : PySem.W.Frag) : TS :=
  (tRet (tAndV (tCall (sp_is_head P w K) [] E0 (tCons (tVar 0) tNil)) (tOp rNe (tVar 0) (tC (.str "")))))

def t_is_whole (P : Program) (w : World) (K : PySem.W.Frag) : TS :=
  (tRet (tAndV (tCB (rIsi K) (tCons (tVar 0) (tCons (tC (.ty "int")) tNil))) (tNotV (tCB (rIsi K) (tCons (tVar 0) (tCons (tC (.ty "bool")) tNil))))))

def t_is_value (P : Program) (w : World) (K : PySem.W.Frag) : TS :=
  (tSeq (tIfS (tTest (tOp r_isN (tVar 0) (tC .non))) (tRet (tC (.bl true))) tNext) (tRet (tAndV (tCall (sp_is_whole P w K) [] E0 (tCons (tVar 0) tNil)) (tChain r_le r_le (tUn r_neg (tOp r_pow (tC (.int 10)) (tC (.int 30)))) (tVar 0) (tOp r_pow (tC (.int 10)) (tC (.int 30)))))))

def t_is_under (P : Program) (w : World) (K : PySem.W.Frag) : TS :=
  (tRet (tOp rEq (tSl rSlS (tVar 0) tNoPart (tPart (tCB c_lenS (tCons (tVar 1) tNil)))) (tVar 1)))

section
variable {P : Program} {w : World} {K : PySem.W.Frag} {vs : List V} {H : Hp} {Q : VK} {E : XK}
theorem rd_is_head (h : sp_is_head P w K vs H Q E) : t_is_head P w K { nx := fun _ H' => Q .non H', rt := Q } (start ["thing", "sign"] vs) H := by
  refine rd_N h fun G0 ms S mQ mX h => ?_
  obtain ⟨d, rfl, ok, q⟩ := h
  unfold t_is_head bodyN
  walk_at "s0"
  walk_at "md"
  refine m_isi ok.scr (kb_str ok.scr) ?_
  cases d with
  | str z =>
    have hz : z.length ≤ 60000 := ok
    walk_at "md"
    refine m_lenS (by omega) ?_
    walk_at "md"
    refine ⟨fun h => ?_, fun h => ?_⟩
    · walk_at "md"
      rw [show headD (.str z) = false by unfold headD; have : ¬ z.length ≤ 12 := by { have := of_decide_eq_true h; omega }; simp [this]] at q
      exact up q
    · have hl : z.length ≤ 12 := by have := of_decide_eq_false h; omega
      walk_at "md"
      refine n_for (i_str ?_)
      walk_at "md"
      refine ⟨z, rfl, fun i E' S' => (∃ u, E' = [some (.im (.str z)), u]) ∧ S' = S ∧ ∀ j < i, ∀ c, z.cps[j]? = some c → c ∈ SIGNS, ⟨⟨none, rfl⟩, rfl, fun j hj => absurd hj (Nat.not_lt_zero j)⟩, fun _ _ _ _ _ => trivial, ?_, ?_⟩
      · rintro i m E' S' hi ⟨c, ec, rfl⟩ ⟨⟨u, rfl⟩, rfl, hall⟩
        walk_at "md"
        refine m_niC ?_
        walk_at "md"
        refine ⟨fun h => ?_, fun h => ?_⟩
        · have hc : ¬ c ∈ SIGNS := by simpa [SIGNS] using h
          walk_at "md"
          rw [show headD (.str z) = false by
            unfold headD signsOk
            rw [Bool.and_eq_false_iff]
            refine Or.inr ?_
            rw [List.all_eq_false]
            exact ⟨c, List.mem_of_getElem? (by rw [Array.getElem?_toList]; exact ec), by simpa using hc⟩] at q
          exact up q
        · have hc : c ∈ SIGNS := by simpa [SIGNS] using h
          walk_at "md"
          refine ⟨⟨_, rfl⟩, rfl, fun j hj x hx => ?_⟩
          by_cases hji : j = i
          · subst hji
            rw [ec] at hx
            cases hx
            exact hc
          · exact hall j (by omega) x hx
      · rintro E' S' ⟨⟨u, rfl⟩, rfl, hall⟩
        walk_at "md"
        rw [show headD (.str z) = true by
          unfold headD signsOk
          rw [Bool.and_eq_true_iff]
          refine ⟨decide_eq_true hl, List.all_eq_true.mpr fun c hc => decide_eq_true ?_⟩
          obtain ⟨j, hj, rfl⟩ := List.getElem_of_mem hc
          exact hall j (by simpa [srcS] using hj) _ (by rw [← Array.getElem?_toList, List.getElem?_eq_getElem hj])] at q
        exact up q
  | scr ns => exact (False.elim ok)
  | _ =>
    walk_at "md"
    exact up q
theorem rd_is_name (h : sp_is_name P w K vs H Q E) : t_is_name P w K { nx := fun _ H' => Q .non H', rt := Q } (start ["thing"] vs) H := by
  refine rd_N h fun G0 ms S mQ mX h => ?_
  obtain ⟨d, rfl, ok, q⟩ := h
  unfold t_is_name bodyN
  walk_at "s0"
  walk_at "md"
  refine ⟨d, rfl, ok, ?_⟩
  walk_at "md"
  refine ⟨fun h => ?_, fun h => ?_⟩
  · cases d with
    | str z =>
      walk_at "md"
      rw [show nameD (.str z) = (headD (.str z) && !decide (z = "")) from rfl, h, Bool.true_and] at q
      exact up q
    | _ => cases h
  · have : nameD d = false := by
      cases d with
      | str z => rw [show nameD (.str z) = (headD (.str z) && !decide (z = "")) from rfl, h]; rfl
      | _ => rfl
    rw [this] at q
    exact up q
theorem rd_is_whole (h : sp_is_whole P w K vs H Q E) : t_is_whole P w K { nx := fun _ H' => Q .non H', rt := Q } (start ["thing"] vs) H := by
  refine rd_N h fun G0 ms S mQ mX h => ?_
  obtain ⟨d, rfl, ok, q⟩ := h
  unfold t_is_whole bodyN
  walk_at "s0"
  walk_at "md"
  refine m_isi ok.scr (kb_int ok.scr) ?_
  cases d <;> first | (walk_at "md"; exact up q) | exact (False.elim ok)
theorem rd_is_value (h : sp_is_value P w K vs H Q E) : t_is_value P w K { nx := fun _ H' => Q .non H', rt := Q } (start ["thing"] vs) H := by
  refine rd_N h fun G0 ms S mQ mX h => ?_
  obtain ⟨d, rfl, ok, q⟩ := h
  unfold t_is_value bodyN
  walk_at "s0"
  walk_at "md"
  cases d with
  | non =>
    refine ⟨fun _ => ?_, fun h => (nomatch h)⟩
    walk_at "md"
    exact up q
  | int i =>
    refine ⟨fun h => (nomatch h), fun _ => ?_⟩
    walk_at "md"
    refine ⟨_, rfl, ok, ?_⟩
    unfold wholeD
    walk_at "md"
    refine m_pow ⟨by decide, by decide, by decide⟩ ?_
    walk_at "md"
    have e2 : (10 ^ Int.toNat 30 : Int) = 10 ^ 30 := by decide
    rw [e2]
    refine ⟨fun h => ?_, fun h => ?_⟩
    · walk_at "md"
      refine m_pow ⟨by decide, by decide, by decide⟩ ?_
      rw [e2]
      walk_at "md"
      rw [show valueD (.int i) = (decide (-(10 ^ 30) ≤ i) && decide (i ≤ 10 ^ 30)) from rfl, h, Bool.true_and] at q
      exact up q
    · rw [show valueD (.int i) = (decide (-(10 ^ 30) ≤ i) && decide (i ≤ 10 ^ 30)) from rfl, h, Bool.false_and] at q
      exact up q
  | scr ns => exact (False.elim ok)
  | _ =>
    refine ⟨fun h => (nomatch h), fun _ => ?_⟩
    walk_at "md"
    refine ⟨_, rfl, ok, ?_⟩
    unfold wholeD
    walk_at "md"
    exact up q
theorem rd_is_under (h : sp_is_under P w K vs H Q E) : t_is_under P w K { nx := fun _ H' => Q .non H', rt := Q } (start ["name", "head"] vs) H := by
  refine rd_N h fun G0 ms S mQ mX h => ?_
  obtain ⟨n, z, rfl, h1, h2, q⟩ := h
  unfold t_is_under bodyN
  walk_at "s0"
  walk_at "md"
  refine m_lenS (by omega) ?_
  walk_at "md"
  refine m_slS (by omega) ?_
  walk_at "md"
  exact up q
end
end Kr
set_option maxHeartbeats 1000000
namespace Kr
open PySem PySem.Spec L2
/-! ### the laws' helpers -/
def mixF (n : Int) : Int := (n * 48271 + 7919) % 2147483647
theorem mixF_lt (n : Int) : 0 ≤ mixF n ∧ mixF n < 2147483647 := ⟨Int.emod_nonneg _ (by decide), Int.emod_lt_of_pos _ (by decide)⟩
def valueBy (c : Int) : Val :=
  if c % 7 = 3 then none
  else if c % 7 = 4 then some (if c / 7 % 5 = 0 then 0 else if c / 7 % 5 = 1 then 1 else if c / 7 % 5 = 2 then -1 else if c / 7 % 5 = 3 then 10 ^ 30 else -(10 ^ 30))
  else if c % 7 = 5 then some (c / 7 % 9)
  else some (c / 7 % (2 * 10 ^ 30 + 1) - 10 ^ 30)
theorem valueBy_ok (c : Int) : ValOk (valueBy c) := by
  unfold valueBy
  have h0 := Int.emod_nonneg (c / 7) (show (9 : Int) ≠ 0 by decide)
  have h2 := Int.emod_lt_of_pos (c / 7) (show (0 : Int) < 9 by decide)
  have h3 := Int.emod_nonneg (c / 7) (show (2 * 10 ^ 30 + 1 : Int) ≠ 0 by decide)
  have h4 := Int.emod_lt_of_pos (c / 7) (show (0 : Int) < 2 * 10 ^ 30 + 1 by decide)
  split
  · exact trivial
  · split
    · repeat' split
      all_goals exact ⟨by decide, by decide⟩
    · split
      · exact ⟨by omega, by omega⟩
      · refine ⟨?_, ?_⟩ <;> omega
def mp_l_cell_at : Mp := fun ms S Q _ => ∃ (ns : List Int) (k : Int), ms = [.im (.scr ns), .im (.int k)] ∧ 0 ≤ k ∧ Q (.im (.int (ns.getD k.toNat 0))) S
def mp_l_mixed : Mp := fun ms S Q _ => ∃ n : Int, ms = [.im (.int n)] ∧ Q (.im (.int (mixF n))) S
def mp_l_name_by : Mp := fun ms S Q _ => ∃ n : Int, ms = [.im (.int n)] ∧ ∀ z, NameOk z → Q (.im (.str z)) S
def mp_l_twin : Mp := fun ms S Q _ => ∃ (x : Str) (n : Int), ms = [.im (.str x), .im (.int n)] ∧ NameOk x ∧ ∀ z, NameOk z → Q (.im (.str z)) S
def mp_l_pool : Mp := fun ms S Q _ => ∃ n m : Int, ms = [.im (.int n), .im (.int m)] ∧ ∀ zs, (∀ z ∈ zs, NameOk z) → 1 ≤ zs.length → zs.length ≤ 140 → Q (.im (.lst (dStrs zs))) S
def mp_l_value_by : Mp := fun ms S Q _ => ∃ n : Int, ms = [.im (.int n)] ∧ Q (vM (valueBy n)) S
def mp_l_whole : Mp := fun ms S Q _ => ∃ d, ms = [.im d] ∧ okIn d ∧ Q (.im (.bl (wholeD d))) S
def mp_l_same : Mp := fun ms S Q _ => ∃ x y : Val, ms = [vM x, vM y] ∧ Q (.im (.bl (decide (x = y)))) S
def mp_l_pairs : Mp := fun ms S Q _ => ∃ (x : MV) (ps qs : Puts), ms = [x, .im (.lst (pairsD qs))] ∧ LsM S x ((pairsD ps).map .im) ∧ qs.length ≤ 60000 ∧ Q (.im (.bl (decide (ps = qs)))) S
def mp_l_last : Mp := fun ms S Q _ => ∃ (x : MV) (ps : Puts), ms = [x] ∧ LsM S x ((pairsD ps).map .im) ∧ ps.length ≤ 60000 ∧ ∀ q, S q = none → Q (.mu q) (mup S q (.dct (kvV (lastA ps))))
def mp_l_told_under : Mp := fun ms S Q _ => ∃ (l o : Addr) (left own : Puts) (z : Str), ms = [.mu l, .mu o, .im (.str z)] ∧ DcM S l (kvV left) ∧ DcM S o (kvV own) ∧ (keysA left).Nodup ∧ (keysA own).Nodup ∧
  (∀ n ∈ keysA left, HeadOk n) ∧ (∀ n ∈ keysA own, HeadOk n) ∧ left.length + own.length ≤ 4000 ∧ z.length ≤ 60000 ∧ Q (.im (.lst (pairsD (underA left own z)))) S
abbrev sp_l_cell_at (_ : Program) (_ : World) (K : PySem.W.Frag) : Sp := lift K mp_l_cell_at
abbrev sp_l_mixed (_ : Program) (_ : World) (K : PySem.W.Frag) : Sp := lift K mp_l_mixed
abbrev sp_l_name_by (_ : Program) (_ : World) (K : PySem.W.Frag) : Sp := lift K mp_l_name_by
abbrev sp_l_twin (_ : Program) (_ : World) (K : PySem.W.Frag) : Sp := lift K mp_l_twin
abbrev sp_l_pool (_ : Program) (_ : World) (K : PySem.W.Frag) : Sp := lift K mp_l_pool
abbrev sp_l_value_by (_ : Program) (_ : World) (K : PySem.W.Frag) : Sp := lift K mp_l_value_by
abbrev sp_l_whole (_ : Program) (_ : World) (K : PySem.W.Frag) : Sp := lift K mp_l_whole
abbrev sp_l_same (_ : Program) (_ : World) (K : PySem.W.Frag) : Sp := lift K mp_l_same
abbrev sp_l_pairs (_ : Program) (_ : World) (K : PySem.W.Frag) : Sp := lift K mp_l_pairs
abbrev sp_l_last (_ : Program) (_ : World) (K : PySem.W.Frag) : Sp := lift K mp_l_last
abbrev sp_l_told_under (_ : Program) (_ : World) (K : PySem.W.Frag) : Sp := lift K mp_l_told_under
section
variable {P : Program} {w : World} {K : PySem.W.Frag} {vs : List V} {H : Hp} {Q : VK} {E : XK}
theorem len_l_cell_at (h : sp_l_cell_at P w K vs H Q E) : vs.length = 2 := lift_len (by rintro ms S mQ mX ⟨_, _, rfl, _⟩; rfl) h
theorem len_l_mixed (h : sp_l_mixed P w K vs H Q E) : vs.length = 1 := lift_len (by rintro ms S mQ mX ⟨_, rfl, _⟩; rfl) h
theorem len_l_name_by (h : sp_l_name_by P w K vs H Q E) : vs.length = 1 := lift_len (by rintro ms S mQ mX ⟨_, rfl, _⟩; rfl) h
theorem len_l_twin (h : sp_l_twin P w K vs H Q E) : vs.length = 2 := lift_len (by rintro ms S mQ mX ⟨_, _, rfl, _⟩; rfl) h
theorem len_l_pool (h : sp_l_pool P w K vs H Q E) : vs.length = 2 := lift_len (by rintro ms S mQ mX ⟨_, _, rfl, _⟩; rfl) h
theorem len_l_value_by (h : sp_l_value_by P w K vs H Q E) : vs.length = 1 := lift_len (by rintro ms S mQ mX ⟨_, rfl, _⟩; rfl) h
theorem len_l_whole (h : sp_l_whole P w K vs H Q E) : vs.length = 1 := lift_len (by rintro ms S mQ mX ⟨_, rfl, _⟩; rfl) h
theorem len_l_same (h : sp_l_same P w K vs H Q E) : vs.length = 2 := lift_len (by rintro ms S mQ mX ⟨_, _, rfl, _⟩; rfl) h
theorem len_l_pairs (h : sp_l_pairs P w K vs H Q E) : vs.length = 2 := lift_len (by rintro ms S mQ mX ⟨_, _, _, rfl, _⟩; rfl) h
theorem len_l_last (h : sp_l_last P w K vs H Q E) : vs.length = 1 := lift_len (by rintro ms S mQ mX ⟨_, _, rfl, _⟩; rfl) h
theorem len_l_told_under (h : sp_l_told_under P w K vs H Q E) : vs.length = 3 := lift_len (by rintro ms S mQ mX ⟨_, _, _, _, _, rfl, _⟩; rfl) h
end
def t_l_cell_at (P : Program) (w : World) (K : PySem.W.Frag) : TS :=
  (tSeq (tIfS (tTest (tOp r_lt (tVar 1) (tCB (c_len K) (tCons (tVar 0) tNil)))) (tRet (tOp (rIxL K) (tVar 0) (tVar 1))) tNext) (tRet (tC (.int 0))))

def t_l_mixed (P : Program) (w : World) (K : PySem.W.Frag) : TS :=
  (tRet (tOp r_mod (tOp r_add (tOp r_mul (tVar 0) (tC (.int 48271))) (tC (.int 7919))) (tC (.int 2147483647))))

def t_l_name_by (P : Program) (w : World) (K : PySem.W.Frag) : TS :=
  (tSeq (tAsg (tC (.str "abcdefghijklmnopqrstuvwxyz0123456789.")) (gName 1)) (tSeq (tAsg (tC (.str "")) (gName 2)) (tSeq (tAsg (tVar 0) (gName 3)) (tSeq (tFor (iRng1 (tCons (tOp r_add (tC (.int 1)) (tOp r_mod (tVar 0) (tC (.int 12)))) tNil)) (gName 4) (tSeq (tAsg (tCall (sp_l_mixed P w K) [] E0 (tCons (tVar 3) tNil)) (gName 3)) (tAsg (tOp r_cat (tVar 2) (tOp rIxS (tVar 1) (tOp r_mod (tVar 3) (tC (.int 37))))) (gName 2)))) (tRet (tVar 2))))))

def t_l_twin (P : Program) (w : World) (K : PySem.W.Frag) : TS :=
  (tSeq (tAsg (tC (.str "abcdefghijklmnopqrstuvwxyz0123456789.")) (gName 2)) (tSeq (tAsg (tOp r_mod (tVar 1) (tCB c_lenS (tCons (tVar 0) tNil))) (gName 3)) (tSeq (tAsg (tOp r_add (tOp r_add (tBM K "str" r_find (tVar 2) (tCons (tOp rIxS (tVar 0) (tVar 3)) tNil)) (tC (.int 1))) (tOp r_mod (tOp r_div (tVar 1) (tC (.int 12))) (tC (.int 36)))) (gName 4)) (tRet (tOp r_cat (tOp r_cat (tSl rSlS (tVar 0) tNoPart (tPart (tVar 3))) (tOp rIxS (tVar 2) (tOp r_mod (tVar 4) (tC (.int 37))))) (tSl rSlS (tVar 0) (tPart (tOp r_add (tVar 3) (tC (.int 1)))) tNoPart))))))

def t_l_pool (P : Program) (w : World) (K : PySem.W.Frag) : TS :=
  (tSeq (tAsg (tCall (sp_l_name_by P w K) [] E0 (tCons (tVar 0) tNil)) (gName 2)) (tSeq (tAsg (tCall (sp_l_name_by P w K) [] E0 (tCons (tVar 1) tNil)) (gName 3)) (tSeq (tAsg (tLst (tCons (tVar 2) (tCons (tCall (sp_l_twin P w K) [] E0 (tCons (tVar 2) (tCons (tVar 1) tNil))) (tCons (tVar 3) (tCons (tSl rSlS (tOp r_cat (tVar 2) (tVar 3)) tNoPart (tPart (tC (.int 12)))) (tCons (tSl rSlS (tVar 2) tNoPart (tPart (tOp r_add (tC (.int 1)) (tOp r_mod (tVar 1) (tCB c_lenS (tCons (tVar 2) tNil)))))) tNil)))))) (gName 4)) (tSeq (tAsg (tSl (rSlL K) (tOp rCat (tVar 4) (tLst (tCons (tSl rSlS (tOp r_cat (tVar 3) (tC (.str "."))) tNoPart (tPart (tC (.int 12)))) (tCons (tSl rSlS (tOp r_cat (tOp r_cat (tVar 3) (tC (.str "a"))) (tVar 2)) tNoPart (tPart (tC (.int 12)))) tNil)))) tNoPart (tPart (tOp r_add (tC (.int 1)) (tOp r_mod (tOp r_div (tVar 0) (tC (.int 7))) (tC (.int 7)))))) (gName 4)) (tSeq (tIfS (tTest (tOp rEq (tOp r_mod (tOp r_div (tVar 1) (tC (.int 7))) (tC (.int 4))) (tC (.int 1)))) (tAsg (tOp rCat (tVar 4) (tLc (iRng1 (tCons (tOp r_mod (tOp r_div (tVar 1) (tC (.int 28))) (tC (.int 130))) tNil)) (gName 5) tYes (tOp r_cat (tC (.str "n")) (tCB c_strI (tCons (tVar 5) tNil))) [5])) (gName 4)) tNext) (tRet (tVar 4)))))))

def t_l_value_by (P : Program) (w : World) (K : PySem.W.Frag) : TS :=
  (tSeq (tIfS (tTest (tOp rEq (tOp r_mod (tVar 0) (tC (.int 7))) (tC (.int 3)))) (tRet (tC .non)) tNext) (tSeq (tIfS (tTest (tOp rEq (tOp r_mod (tVar 0) (tC (.int 7))) (tC (.int 4)))) (tRet (tOp (rIxL K) (tLst (tCons (tC (.int 0)) (tCons (tC (.int 1)) (tCons (tUn r_neg (tC (.int 1))) (tCons (tOp r_pow (tC (.int 10)) (tC (.int 30))) (tCons (tUn r_neg (tOp r_pow (tC (.int 10)) (tC (.int 30)))) tNil)))))) (tOp r_mod (tOp r_div (tVar 0) (tC (.int 7))) (tC (.int 5))))) tNext) (tSeq (tIfS (tTest (tOp rEq (tOp r_mod (tVar 0) (tC (.int 7))) (tC (.int 5)))) (tRet (tOp r_mod (tOp r_div (tVar 0) (tC (.int 7))) (tC (.int 9)))) tNext) (tRet (tOp r_sub (tOp r_mod (tOp r_div (tVar 0) (tC (.int 7))) (tOp r_add (tOp r_mul (tC (.int 2)) (tOp r_pow (tC (.int 10)) (tC (.int 30)))) (tC (.int 1)))) (tOp r_pow (tC (.int 10)) (tC (.int 30))))))))

def t_l_whole (P : Program) (w : World) (K : PySem.W.Frag) : TS :=
  (tRet (tAndV (tCB (rIsi K) (tCons (tVar 0) (tCons (tC (.ty "int")) tNil))) (tNotV (tCB (rIsi K) (tCons (tVar 0) (tCons (tC (.ty "bool")) tNil))))))

def t_l_same (P : Program) (w : World) (K : PySem.W.Frag) : TS :=
  (tSeq (tIfS (tOr (tTest (tOp r_isN (tVar 1) (tC .non))) (tTest (tOp r_isN (tVar 0) (tC .non)))) (tRet (tAndV (tOp r_isN (tVar 1) (tC .non)) (tOp r_isN (tVar 0) (tC .non)))) tNext) (tRet (tAndV (tCall (sp_l_whole P w K) [] E0 (tCons (tVar 0) tNil)) (tOp rEq (tVar 0) (tVar 1)))))

def t_l_pairs (P : Program) (w : World) (K : PySem.W.Frag) : TS :=
  (tSeq (tIfS (tOr (tNot (tB (tCB (rIsi K) (tCons (tVar 0) (tCons (tC (.ty "list")) tNil))))) (tTest (tOp rNe (tCB (c_len K) (tCons (tVar 0) tNil)) (tCB (c_len K) (tCons (tVar 1) tNil))))) (tRet (tC (.bl false))) tNext) (tSeq (tFor (iRng1 (tCons (tCB (c_len K) (tCons (tVar 1) tNil)) tNil)) (gName 2) (tSeq (tIfS (tOr (tNot (tB (tCB (rIsi K) (tCons (tOp (rIxL K) (tVar 0) (tVar 2)) (tCons (tC (.ty "tuple")) tNil))))) (tOr (tTest (tOp rNe (tCB (c_len K) (tCons (tOp (rIxL K) (tVar 0) (tVar 2)) tNil)) (tC (.int 2)))) (tNot (tB (tCB (rIsi K) (tCons (tOp (rIxT K) (tOp (rIxL K) (tVar 0) (tVar 2)) (tC (.int 0))) (tCons (tC (.ty "str")) tNil))))))) (tRet (tC (.bl false))) tNext) (tIfS (tOr (tTest (tOp rNe (tOp (rIxT K) (tOp (rIxL K) (tVar 0) (tVar 2)) (tC (.int 0))) (tOp (rIxT K) (tOp (rIxL K) (tVar 1) (tVar 2)) (tC (.int 0))))) (tNot (tB (tCall (sp_l_same P w K) [] E0 (tCons (tOp (rIxT K) (tOp (rIxL K) (tVar 0) (tVar 2)) (tC (.int 1))) (tCons (tOp (rIxT K) (tOp (rIxL K) (tVar 1) (tVar 2)) (tC (.int 1))) tNil)))))) (tRet (tC (.bl false))) tNext))) (tRet (tC (.bl true)))))

section
variable {P : Program} {w : World} {K : PySem.W.Frag} {vs : List V} {H : Hp} {Q : VK} {E : XK}
theorem rd_l_cell_at (h : sp_l_cell_at P w K vs H Q E) : t_l_cell_at P w K { nx := fun _ H' => Q .non H', rt := Q } (start ["_law_script", "_law_k"] vs) H := by
  refine rd_N h fun G0 ms S mQ mX h => ?_
  obtain ⟨ns, k, rfl, hk0, q⟩ := h
  unfold t_l_cell_at bodyN
  walk_at "s0"
  walk_at "md"
  obtain ⟨k, rfl⟩ := Int.eq_ofNat_of_zero_le hk0
  rw [Int.toNat_natCast] at q
  refine ⟨fun e => ?_, fun e => ?_⟩
  · walk_at "md"
    have hk : k < ns.length := by simpa using e
    refine m_ixScr (n := ns[k]) (by rw [atI_nat]; simp [hk]) (up ?_)
    rw [show ns[k] = ns.getD k 0 by simp [List.getD, hk]]; exact q
  · walk_at "md"
    have hk : ¬ k < ns.length := by simpa using e
    rw [show ns.getD k 0 = 0 by simp [List.getD, List.getElem?_eq_none (show ns.length ≤ k by omega)]] at q
    exact up q
theorem rd_l_mixed (h : sp_l_mixed P w K vs H Q E) : t_l_mixed P w K { nx := fun _ H' => Q .non H', rt := Q } (start ["_law_number"] vs) H := by
  refine rd_N h fun G0 ms S mQ mX h => ?_
  obtain ⟨n, rfl, q⟩ := h
  unfold t_l_mixed bodyN
  walk_at "s0"
  walk_at "md"
  exact up q
/-- the k-th sign of a text -/
theorem m_ixSa {G0 : Hp} {S : MS} {Q : MV → MS → Prop} {z : Str} {i : Int} (hz : z.length ≤ 60000) (h0 : 0 ≤ i) (h1 : i < z.length) (h : ∀ c, c ∈ z.cps.toList → Q (.im (.str ⟨#[c]⟩)) S) : EvR K G0 rIxS (.im (.str z)) (.im (.int i)) S Q := by
  obtain ⟨k, rfl⟩ := Int.eq_ofNat_of_zero_le h0
  have hk : k < z.cps.toList.length := by
    have : z.length = z.cps.toList.length := by unfold Str.length; simp
    omega
  exact m_ixS (by omega) (by rw [atI_nat]; exact List.getElem?_eq_getElem hk) (h _ (List.getElem_mem hk))
theorem rd_l_name_by (h : sp_l_name_by P w K vs H Q E) : t_l_name_by P w K { nx := fun _ H' => Q .non H', rt := Q } (start ["_law_cell", "_law_some", "_law_name", "_law_number", "_law_k"] vs) H := by
  refine rd_N h fun G0 ms S mQ mX h => ?_
  obtain ⟨n, rfl, q⟩ := h
  unfold t_l_name_by bodyN
  walk_at "s0"
  walk_at "md"
  refine n_for (i_rng (n := 0) ?_)
  walk_at "md"
  refine ⟨_, rfl, by omega, by omega, fun i E' S' => S' = S ∧ ∃ (z : Str) (g : Int) (u : Option MV), E' = [some (.im (.int n)), some (.im (.str "abcdefghijklmnopqrstuvwxyz0123456789.")), some (.im (.str z)), some (.im (.int g)), u] ∧ z.length = i ∧ signsOk z = true, ⟨rfl, ⟨#[]⟩, n, none, rfl, rfl, rfl⟩, fun _ _ _ _ _ => trivial, ?_, ?_⟩
  · rintro i m E' S' hi rfl ⟨rfl, z, g, u, rfl, hz, hs⟩
    have hi' : i < (1 + n % 12).toNat := hi
    walk_at "md"
    refine ⟨_, rfl, ?_⟩
    walk_at "md"
    refine m_ixSa (by decide) (Int.emod_nonneg _ (by decide)) (Int.emod_lt_of_pos _ (by decide)) fun c hc => ?_
    refine m_cat (by rw [len1]; omega) ?_
    exact ⟨rfl, z ++ ⟨#[c]⟩, _, _, rfl, by rw [Str.length_append, len1, hz], signsOk_append hs (signsOk_one hc)⟩
  · rintro E' S' ⟨rfl, z, g, u, rfl, hz, hs⟩
    have hz' : z.length = (1 + n % 12).toNat := hz
    walk_at "md"
    exact up (q z ⟨hs, by omega, by omega⟩)
theorem rd_l_twin (h : sp_l_twin P w K vs H Q E) : t_l_twin P w K { nx := fun _ H' => Q .non H', rt := Q } (start ["_law_name", "_law_cell", "_law_some", "_law_at", "_law_step"] vs) H := by
  refine rd_N h fun G0 ms S mQ mX h => ?_
  obtain ⟨x, n, rfl, ⟨hs, h1, h2⟩, q⟩ := h
  unfold t_l_twin bodyN
  walk_at "s0"
  have hx := Int.emod_nonneg n (show (x.length : Int) ≠ 0 by omega)
  have hy := Int.emod_lt_of_pos n (show (0 : Int) < (x.length : Int) by omega)
  walk_at "md"
  refine m_lenS (by omega) ?_
  walk_at "md"
  generalize n % (x.length : Int) = at_ at *
  obtain ⟨k, rfl⟩ := Int.eq_ofNat_of_zero_le hx
  refine m_bm ?_
  walk_at "md"
  refine ⟨tyS_I, ?_⟩
  walk_at "md"
  refine m_ixSa (by omega) hx hy fun c hc => ?_
  walk_at "md"
  refine m_findS ?_
  walk_at "md"
  refine m_slS (by omega) ?_
  walk_at "md"
  refine m_ixSa (by decide) (Int.emod_nonneg _ (by decide)) (Int.emod_lt_of_pos _ (by decide)) fun c2 hc2 => ?_
  have p1 := pre_len x k
  refine m_cat (by rw [len1]; omega) ?_
  walk_at "md"
  refine m_slS (by omega) ?_
  have p2 := suf_len x (k + 1)
  rw [show ((k + 1 : Nat) : Int) = (k : Int) + 1 by omega] at p2
  refine m_cat (by rw [Str.length_append, len1]; omega) ?_
  refine up (q _ ⟨signsOk_append (signsOk_append (signsOk_cut hs) (signsOk_one hc2)) (signsOk_cut hs), ?_, ?_⟩)
  · rw [Str.length_append, Str.length_append, len1]; omega
  · rw [Str.length_append, Str.length_append, len1]; omega
theorem rd_l_value_by (h : sp_l_value_by P w K vs H Q E) : t_l_value_by P w K { nx := fun _ H' => Q .non H', rt := Q } (start ["_law_cell"] vs) H := by
  refine rd_N h fun G0 ms S mQ mX h => ?_
  obtain ⟨n, rfl, q⟩ := h
  unfold t_l_value_by bodyN
  walk_at "s0"
  unfold valueBy at q
  have e2 : (10 ^ Int.toNat 30 : Int) = 10 ^ 30 := by decide
  walk_at "md"
  refine ⟨fun h => ?_, fun h => ?_⟩
  · walk_at "md"
    rw [if_pos (of_decide_eq_true h)] at q
    exact up q
  rw [if_neg (of_decide_eq_false h)] at q
  walk_at "md"
  refine ⟨fun h => ?_, fun h => ?_⟩
  · rw [if_pos (of_decide_eq_true h)] at q
    walk_at "md"
    refine m_lstI ?_
    walk_at "md"
    refine m_pow ⟨by decide, by decide, by decide⟩ ?_
    walk_at "md"
    refine m_pow ⟨by decide, by decide, by decide⟩ ?_
    walk_at "md"
    rw [e2]
    refine ⟨[.int 0, .int 1, .int (-1), .int (10 ^ 30), .int (-(10 ^ 30))], rfl, by decide, ?_⟩
    walk_at "md"
    have h0 := Int.emod_nonneg (n / 7) (show (5 : Int) ≠ 0 by decide)
    have h2 := Int.emod_lt_of_pos (n / 7) (show (0 : Int) < 5 by decide)
    generalize n / 7 % 5 = m at *
    have hm : m = 0 ∨ m = 1 ∨ m = 2 ∨ m = 3 ∨ m = 4 := by omega
    rcases hm with rfl | rfl | rfl | rfl | rfl <;> exact m_ixI rfl (up q)
  rw [if_neg (of_decide_eq_false h)] at q
  walk_at "md"
  refine ⟨fun h => ?_, fun h => ?_⟩
  · rw [if_pos (of_decide_eq_true h)] at q
    walk_at "md"
    exact up q
  rw [if_neg (of_decide_eq_false h)] at q
  walk_at "md"
  refine m_pow ⟨by decide, by decide, by decide⟩ ?_
  rw [e2]
  refine m_mul (.inl ⟨by omega, by omega⟩) ?_
  walk_at "md"
  refine m_pow ⟨by decide, by decide, by decide⟩ ?_
  rw [e2]
  walk_at "md"
  exact up q
theorem rd_l_whole (h : sp_l_whole P w K vs H Q E) : t_l_whole P w K { nx := fun _ H' => Q .non H', rt := Q } (start ["_law_found"] vs) H := by
  refine rd_N h fun G0 ms S mQ mX h => ?_
  obtain ⟨d, rfl, ok, q⟩ := h
  unfold t_l_whole bodyN
  walk_at "s0"
  walk_at "md"
  refine m_isi ok.scr (kb_int ok.scr) ?_
  cases d <;> first | (walk_at "md"; exact up q) | exact False.elim ok
theorem rd_l_same (h : sp_l_same P w K vs H Q E) : t_l_same P w K { nx := fun _ H' => Q .non H', rt := Q } (start ["_law_told", "_law_due"] vs) H := by
  refine rd_N h fun G0 ms S mQ mX h => ?_
  obtain ⟨x, y, rfl, q⟩ := h
  unfold t_l_same bodyN
  walk_at "s0"
  cases x <;> cases y <;> dsimp only [vM, valD]
  · walk_at "md"
    refine ⟨fun _ => ?_, fun h => (nomatch h)⟩
    walk_at "md"
    refine ⟨fun _ => ?_, fun h => (nomatch h)⟩
    walk_at "md"
    exact up q
  · rename_i j
    walk_at "md"
    refine ⟨fun h => (nomatch h), fun _ => ?_⟩
    walk_at "md"
    refine ⟨fun _ => ?_, fun h => (nomatch h)⟩
    walk_at "md"
    refine ⟨fun h => (nomatch h), fun _ => ?_⟩
    rw [show decide ((none : Val) = some j) = false by simp] at q
    exact up q
  · rename_i i
    walk_at "md"
    refine ⟨fun _ => ?_, fun h => (nomatch h)⟩
    walk_at "md"
    refine ⟨fun _ => ?_, fun h => (nomatch h)⟩
    walk_at "md"
    rw [show decide (some i = (none : Val)) = false by simp] at q
    exact up q
  · rename_i i j
    walk_at "md"
    refine ⟨fun h => (nomatch h), fun _ => ?_⟩
    walk_at "md"
    refine ⟨fun h => (nomatch h), fun _ => ?_⟩
    walk_at "md"
    refine ⟨_, rfl, trivial, ?_⟩
    unfold wholeD
    walk_at "md"
    rw [show decide (some i = some j) = decide (i = j) by simp] at q
    exact up q
end
end Kr
set_option maxHeartbeats 1000000
namespace Kr
open PySem PySem.Spec L2
section
variable {P : Program} {w : World} {K : PySem.W.Frag} {vs : List V} {H : Hp} {Q : VK} {E : XK}
theorem len_dot : (Str.ofString ".").length = 1 := by decide +kernel
theorem len_a : (Str.ofString "a").length = 1 := by decide +kernel
theorem len_n : (Str.ofString "n").length = 1 := by decide +kernel
theorem sg_dot : signsOk (Str.ofString ".") = true := by decide +kernel
theorem sg_a : signsOk (Str.ofString "a") = true := by decide +kernel
theorem nameOk_pre {z : Str} {k : Nat} (h : signsOk z = true) (h1 : 1 ≤ z.length) (k1 : 1 ≤ k) (k2 : k ≤ 12) : NameOk (cutS z none (some (k : Int))) := ⟨signsOk_cut h, by rw [pre_len]; omega, by rw [pre_len]; omega⟩
theorem nstr_ok : ∀ k : Fin 130, NameOk ("n" ++ (toString ((k.val : Nat) : Int) : Str)) := by
  unfold NameOk
  decide +kernel
theorem rd_l_pool (h : sp_l_pool P w K vs H Q E) : t_l_pool P w K { nx := fun _ H' => Q .non H', rt := Q } (start ["_law_one", "_law_two", "_law_first", "_law_second", "_law_pool_here", "_law_k"] vs) H := by
  refine rd_N h fun G0 ms S mQ mX h => ?_
  obtain ⟨n, m, rfl, q⟩ := h
  unfold t_l_pool bodyN
  walk_at "s0"
  walk_at "md"
  refine ⟨_, rfl, fun z1 k1 => ?_⟩
  walk_at "md"
  refine ⟨_, rfl, fun z2 k2 => ?_⟩
  walk_at "md"
  refine m_lstI ?_
  walk_at "md"
  refine ⟨_, _, rfl, k1, fun z3 k3 => ?_⟩
  have k1' := k1
  have k2' := k2
  obtain ⟨s1, l1, u1⟩ := k1'
  obtain ⟨s2, l2, u2⟩ := k2'
  walk_at "md"
  refine m_cat (by omega) ?_
  walk_at "md"
  refine m_slS (by rw [Str.length_append]; omega) ?_
  walk_at "md"
  refine m_lenS (by omega) ?_
  walk_at "md"
  refine m_slS (by omega) ?_
  walk_at "md"
  refine ⟨[.str z1, .str z3, .str z2, .str (cutS (z1 ++ z2) none (some ((12 : Nat) : Int))), .str (cutS z1 none (some (1 + m % (z1.length : Int))))], rfl, by simp, ?_⟩
  walk_at "md"
  refine m_lstI ?_
  walk_at "md"
  refine m_cat (by rw [len_dot]; omega) ?_
  walk_at "md"
  refine m_slS (by rw [Str.length_append, len_dot]; omega) ?_
  walk_at "md"
  refine m_cat (by rw [len_a]; omega) ?_
  walk_at "md"
  refine m_cat (by rw [Str.length_append, len_a]; omega) ?_
  walk_at "md"
  refine m_slS (by rw [Str.length_append, Str.length_append, len_a]; omega) ?_
  walk_at "md"
  refine ⟨[.str (cutS (z2 ++ Str.ofString ".") none (some ((12 : Nat) : Int))), .str (cutS (z2 ++ Str.ofString "a" ++ z1) none (some ((12 : Nat) : Int)))], rfl, by simp, ?_⟩
  refine m_catI (by simp) ?_
  walk_at "md"
  have b1 : 1 ≤ 1 + n / 7 % 7 ∧ 1 + n / 7 % 7 ≤ 7 := by omega
  have b2 : 1 ≤ 1 + m % (z1.length : Int) ∧ 1 + m % (z1.length : Int) ≤ 12 := by
    have := Int.emod_nonneg m (show (z1.length : Int) ≠ 0 by omega)
    have := Int.emod_lt_of_pos m (show (0 : Int) < (z1.length : Int) by omega)
    omega
  generalize 1 + m % (z1.length : Int) = kk at b2 ⊢
  generalize 1 + n / 7 % 7 = nn at b1 ⊢
  obtain ⟨kk, rfl⟩ := Int.eq_ofNat_of_zero_le (show 0 ≤ kk by omega)
  obtain ⟨nn, rfl⟩ := Int.eq_ofNat_of_zero_le (show 0 ≤ nn by omega)
  rw [cutD_pre]
  obtain ⟨zs, hzs, hz, h1, h2⟩ : ∃ zs : List Str, ([D.str z1, .str z3, .str z2, .str (cutS (z1 ++ z2) none (some ((12 : Nat) : Int))), .str (cutS z1 none (some (kk : Int)))] ++ [D.str (cutS (z2 ++ Str.ofString ".") none (some ((12 : Nat) : Int))), .str (cutS (z2 ++ Str.ofString "a" ++ z1) none (some ((12 : Nat) : Int)))]).take nn = dStrs zs ∧ (∀ z ∈ zs, NameOk z) ∧ 1 ≤ zs.length ∧ zs.length ≤ 7 := by
    refine ⟨[z1, z3, z2, cutS (z1 ++ z2) none (some ((12 : Nat) : Int)), cutS z1 none (some (kk : Int)), cutS (z2 ++ Str.ofString ".") none (some ((12 : Nat) : Int)), cutS (z2 ++ Str.ofString "a" ++ z1) none (some ((12 : Nat) : Int))].take nn, by unfold dStrs; rw [List.map_take]; rfl, fun z hz => ?_, by rw [List.length_take]; simp; omega, by rw [List.length_take]; omega⟩
    have := List.mem_of_mem_take hz
    simp only [List.mem_cons, List.not_mem_nil, or_false] at this
    rcases this with rfl | rfl | rfl | rfl | rfl | rfl | rfl
    · exact k1
    · exact k3
    · exact k2
    · exact nameOk_pre (signsOk_append s1 s2) (by rw [Str.length_append]; omega) (by omega) (by omega)
    · exact nameOk_pre s1 l1 (by omega) (by omega)
    · exact nameOk_pre (signsOk_append s2 sg_dot) (by rw [Str.length_append]; omega) (by omega) (by omega)
    · exact nameOk_pre (signsOk_append (signsOk_append s2 sg_a) s1) (by rw [Str.length_append, Str.length_append]; omega) (by omega) (by omega)
  have e12 : (12 : Int) = ((12 : Nat) : Int) := rfl
  rw [hzs]
  clear hzs
  refine ⟨fun _ => ?_, fun _ => ?_⟩
  · walk_at "md"
    refine m_lc (i_rng (n := 0) ?_)
    walk_at "md"
    refine ⟨_, rfl, by omega, by omega, by show (m / 28 % 130).toNat ≤ 60000; omega, fun _ _ => trivial, fun k => some (.str ("n" ++ (toString (k : Int) : Str))), ?_, ?_⟩
    · rintro k m' S' hk rfl _
      have hk' : k < (m / 28 % 130).toNat := hk
      have ok := nstr_ok ⟨k, by omega⟩
      have lo : (Str.ofString "n" ++ (toString (k : Int) : Str)).length ≤ 12 := ok.2.2
      rw [Str.length_append] at lo
      walk_at "md"
      refine ⟨rfl, fun _ => ?_, fun h => (nomatch h)⟩
      walk_at "md"
      refine m_strI (Nat.lt_of_le_of_lt (Nat.log2_le_self _) (by omega)) ?_
      refine m_cat (by omega) ?_
      exact ⟨rfl, _, rfl, rfl⟩
    · have ez : (List.range (m / 28 % 130).toNat).filterMap (fun (k : Nat) => some (D.str ("n" ++ (toString (k : Int) : Str)))) = dStrs ((List.range (m / 28 % 130).toNat).map fun (k : Nat) => ("n" ++ (toString (k : Int) : Str))) := by
        unfold dStrs
        rw [List.map_map]
        exact congrFun List.filterMap_eq_map _
      rw [show (srcR (m / 28 % 130).toNat).n = (m / 28 % 130).toNat from rfl, ez]
      refine m_catI (by unfold dStrs; rw [List.length_map, List.length_map, List.length_map, List.length_range]; omega) ?_
      rw [show dStrs zs ++ dStrs ((List.range (m / 28 % 130).toNat).map fun (k : Nat) => ("n" ++ (toString (k : Int) : Str))) = dStrs (zs ++ (List.range (m / 28 % 130).toNat).map fun (k : Nat) => ("n" ++ (toString (k : Int) : Str))) by unfold dStrs; rw [List.map_append]]
      walk_at "md"
      refine up (q _ (fun z hz2 => ?_) (by rw [List.length_append]; omega) (by rw [List.length_append, List.length_map, List.length_range]; omega))
      rcases List.mem_append.mp hz2 with hz2 | hz2
      · exact hz z hz2
      · obtain ⟨k, hk, rfl⟩ := List.mem_map.mp hz2
        rw [List.mem_range] at hk
        exact nstr_ok ⟨k, by omega⟩
  · walk_at "md"
    exact up (q zs hz h1 (by omega))
theorem pairs_get {ps : Puts} {i : Nat} {p : Str × Val} (h : ps[i]? = some p) : (pairsD ps)[i]? = some (pairD p) := by unfold pairsD; rw [List.getElem?_map, h]; rfl
theorem pairsM_get {ps : Puts} {i : Nat} {p : Str × Val} (h : ps[i]? = some p) : ((pairsD ps).map MV.im)[i]? = some (.im (pairD p)) := by rw [List.getElem?_map, pairs_get h]; rfl
theorem rd_l_pairs (h : sp_l_pairs P w K vs H Q E) : t_l_pairs P w K { nx := fun _ H' => Q .non H', rt := Q } (start ["_law_told", "_law_due", "_law_k"] vs) H := by
  refine rd_N h fun G0 ms S mQ mX h => ?_
  obtain ⟨x, ps, qs, rfl, hl, hq, q⟩ := h
  unfold t_l_pairs bodyN
  walk_at "s0"
  walk_at "md"
  refine m_isiX hl ?_
  walk_at "md"
  refine m_lenX hl ?_
  walk_at "md"
  have l1 : ((pairsD ps).map MV.im).length = ps.length := by unfold pairsD; simp
  have l2 : (pairsD qs).length = qs.length := by unfold pairsD; simp
  rw [l1, l2]
  refine ⟨fun h => ?_, fun h => ?_⟩
  · walk_at "md"
    have : ¬ ps = qs := by rintro rfl; simp at h
    rw [show decide (ps = qs) = false by simp [this]] at q
    exact up q
  have hlen : ps.length = qs.length := by have h1 := h; simp at h1; omega
  walk_at "md"
  refine n_for (i_rng (n := 0) ?_)
  walk_at "md"
  rw [l2]
  refine ⟨_, rfl, by omega, by omega, fun i E' S' => S' = S ∧ (∃ u, E' = [some x, some (.im (.lst (pairsD qs))), u]) ∧ ps.take i = qs.take i, ⟨rfl, ⟨none, rfl⟩, rfl⟩, fun _ _ _ _ _ => trivial, ?_, ?_⟩
  · rintro i m E' S' hi rfl ⟨rfl, ⟨u, rfl⟩, ht⟩
    have hi' : i < qs.length := by have : i < ((qs.length : Int)).toNat := hi; omega
    have e1 : ps[i]? = some (ps[i]'(by omega)) := List.getElem?_eq_getElem (by omega)
    have e2 : qs[i]? = some qs[i] := List.getElem?_eq_getElem hi'
    generalize ps[i]'(by omega) = p at e1
    generalize qs[i] = r at e2
    obtain ⟨n1, v1⟩ := p
    obtain ⟨n2, v2⟩ := r
    have a1 : atI ((pairsD ps).map MV.im) (i : Int) = some (.im (pairD (n1, v1))) := by rw [atI_nat]; exact pairsM_get e1
    have a2 : atI (pairsD qs) (i : Int) = some (pairD (n2, v2)) := by rw [atI_nat]; exact pairs_get e2
    have ht1 : ps.take (i + 1) = ps.take i ++ [(n1, v1)] := by rw [List.take_succ, e1]; rfl
    have ht2 : qs.take (i + 1) = qs.take i ++ [(n2, v2)] := by rw [List.take_succ, e2]; rfl
    have bad : (n1, v1) ≠ (n2, v2) → ps ≠ qs := by
      rintro hne rfl
      rw [e1] at e2; cases e2; exact hne rfl
    unfold pairD at a1 a2
    dsimp only at a1 a2
    walk_at "md"
    refine m_ixX hl a1 ?_
    walk_at "md"
    refine m_ixX hl a1 ?_
    walk_at "md"
    refine ⟨fun h => absurd h (by simp), fun _ => ?_⟩
    walk_at "md"
    refine m_ixX hl a1 ?_
    walk_at "md"
    refine m_ixX hl a1 ?_
    walk_at "md"
    refine m_ixI a2 ?_
    walk_at "md"
    refine ⟨fun h => ?_, fun h => ?_⟩
    · walk_at "md"
      have hb : ps ≠ qs := bad fun e => by cases e; simp at h
      rw [show decide (ps = qs) = false by simp [hb]] at q
      exact up q
    have hn : n1 = n2 := by simpa using h
    walk_at "md"
    refine m_ixX hl a1 ?_
    walk_at "md"
    refine m_ixI a2 ?_
    walk_at "md"
    refine ⟨v1, v2, rfl, ?_⟩
    walk_at "md"
    refine ⟨fun h => ?_, fun h => ?_⟩
    · walk_at "md"
      have hb : ps ≠ qs := bad fun e => by cases e; simp at h
      rw [show decide (ps = qs) = false by simp [hb]] at q
      exact up q
    · walk_at "md"
      have hv : v1 = v2 := by simpa using h
      exact ⟨rfl, ⟨_, rfl⟩, by rw [ht1, ht2, ht, hn, hv]⟩
  · rintro E' S' ⟨rfl, ⟨u, rfl⟩, ht⟩
    have ht' : ps.take ((qs.length : Int)).toNat = qs.take ((qs.length : Int)).toNat := ht
    rw [Int.toNat_natCast, List.take_length, ← hlen, List.take_length] at ht'
    walk_at "md"
    rw [show decide (ps = qs) = true by simp [ht']] at q
    exact up q
theorem take_last {ps : Puts} {i : Nat} {p : Str × Val} (h : ps[i]? = some p) : lastA (ps.take (i + 1)) = putA (lastA (ps.take i)) p.1 p.2 := by
  rw [List.take_succ, h]; exact lastA_snoc
end
end Kr
set_option maxHeartbeats 1000000
namespace Kr
open PySem PySem.Spec L2
theorem mup_self {S : MS} {a : Addr} {o : MO} (h : S a = some o) : mup S a o = S := by funext b; simp only [mup]; split <;> simp_all
theorem fm_range {α β : Type} (xs : List α) (f : α → Option β) : (List.range xs.length).filterMap (fun i => xs[i]?.bind f) = xs.filterMap f := by
  induction xs with
  | nil => rfl
  | cons x xs ih => rw [List.length_cons, List.range_succ_eq_map, List.filterMap_cons, List.filterMap_cons, List.filterMap_map]; simp only [List.getElem?_cons_zero, Option.bind_some]; rw [← ih]; rfl
theorem getA_rev {α : Type} {d : List (Str × α)} {n : Str} (h : (keysA d).Nodup) : getA d.reverse n = getA d n := by
  cases e : getA d n with
  | none => rw [getA_none] at e ⊢; simpa [keysA] using e
  | some v =>
    have h1 := getA_in e
    have h2 : (keysA d.reverse).Nodup := by unfold keysA at *; rw [List.map_reverse]; exact (List.reverse_perm _).nodup_iff.mpr h
    exact getA_of_mem (p := (n, v)) h2 (List.mem_reverse.mpr h1)
theorem getA_last {α : Type} {d : List (Str × α)} {n : Str} (h : (keysA d).Nodup) : getA (lastA d) n = getA d n := by rw [getA_last_rev, getA_rev h]
theorem fm_congr {α β : Type} {f g : α → Option β} : ∀ {xs : List α}, (∀ x ∈ xs, f x = g x) → xs.filterMap f = xs.filterMap g
  | [], _ => rfl
  | x :: xs, h => by rw [List.filterMap_cons, List.filterMap_cons, h x List.mem_cons_self, fm_congr fun y hy => h y (List.mem_cons_of_mem _ hy)]
theorem readA_merge {left own : Puts} {n : Str} (h : (keysA own).Nodup) : (getA (mergeA left own) n).getD none = readA left own n := by
  rw [getA_merge, getA_last h]; unfold readA
  cases getA own n <;> rfl
theorem underA_merge {left own : Puts} {z : Str} (h : (keysA own).Nodup) : ((srt (keysA (mergeA left own))).filter fun n => underB n z).filterMap (fun n => if (getA (mergeA left own) n).getD none = none then none else some (n, (getA (mergeA left own) n).getD none)) = underA left own z := by
  unfold underA selA
  rw [srt_cong (xs := keysA (mergeA left own)) (ys := keysA left ++ keysA own) fun z => by rw [mem_keys_merge, List.mem_append]]
  refine fm_congr fun n _ => ?_
  rw [readA_merge h]
theorem fm_filter {α β : Type} (xs : List α) (p : α → Bool) (f : α → β) : xs.filterMap (fun n => if p n = true then some (f n) else none) = (xs.filter p).map f := by
  induction xs with
  | nil => rfl
  | cons x xs ih =>
    rw [List.filterMap_cons, List.filter_cons]
    by_cases h : p x = true
    · rw [if_pos h, if_pos h]; simp [ih]
    · rw [if_neg h, if_neg h]; simp [ih]
theorem strs_len (xs : List Str) : (dStrs xs).length = xs.length := List.length_map _
theorem strs_get {xs : List Str} {i : Nat} {d : D} (h : (dStrs xs)[i]? = some d) : ∃ x, xs[i]? = some x ∧ d = .str x := by
  unfold dStrs at h
  rw [List.getElem?_map] at h
  cases e : xs[i]? with
  | none => rw [e] at h; cases h
  | some x => rw [e] at h; cases h; exact ⟨x, rfl, rfl⟩
section
variable {P : Program} {w : World} {K : PySem.W.Frag} {vs : List V} {H : Hp} {Q : VK} {E : XK}
end
/-! ### places -/
def dNats (xs : List Nat) : List D := dInts (xs.map fun (n : Nat) => (n : Int))
def placeIn (row ahead behind : List Nat) : Option Nat :=
  let p := row.findIdx fun x => decide (x ∈ behind)
  if (ahead.all fun x => decide (x ∈ row.take p)) = true then some p else none
def plM (p : Option Nat) : MV := match p with | none => .im .non | some k => .im (.int k)
def mp_place_in : Mp := fun ms S Q _ => ∃ (x y z : MV) (row ahead behind : List Nat), ms = [x, y, z] ∧ LsM S x ((dNats row).map .im) ∧ LsM S y ((dNats ahead).map .im) ∧ LsM S z ((dNats behind).map .im) ∧ row.length ≤ 60000 ∧ Q (plM (placeIn row ahead behind)) S
abbrev sp_place_in (_ : Program) (_ : World) (K : PySem.W.Frag) : Sp := lift K mp_place_in
/-! ### versions -/
abbrev Vers := List (Nat × Val)
def verD (p : Nat × Val) : D := .tup [.int (p.1 : Nat), valD p.2]
def versD (vs : Vers) : List D := vs.map verD
def newestV (vs : Vers) (m : Nat) : Val := vs.foldl (fun acc v => if v.1 ≤ m then v.2 else acc) none
def mp_newest : Mp := fun ms S Q _ => ∃ (x : MV) (vs : Vers) (m : Nat), ms = [x, .im (.int m)] ∧ LsM S x ((versD vs).map .im) ∧ Q (vM (newestV vs m)) S
abbrev sp_newest (_ : Program) (_ : World) (K : PySem.W.Frag) : Sp := lift K mp_newest
/-! ### what is known of the classes -/
structure KF (K : PySem.W.Frag) : Prop where
  cS : Cls K (He.ga K "Shelf")
  cR : Cls K (He.ga K "Record")
  s1 : NoAttr K (He.ga K "Shelf") "records"
  s2 : NoAttr K (He.ga K "Shelf") "row"
  s3 : NoAttr K (He.ga K "Shelf") "rows"
  r1 : NoAttr K (He.ga K "Record") "start"
  r2 : NoAttr K (He.ga K "Record") "stamp"
  r3 : NoAttr K (He.ga K "Record") "mood"
  r4 : NoAttr K (He.ga K "Record") "done"
  r5 : NoAttr K (He.ga K "Record") "puts"
  r6 : NoAttr K (He.ga K "Record") "seen"
  r7 : NoAttr K (He.ga K "Record") "heads"
abbrev uM : Unit → MV := fun _ => .im (.bl true)
abbrev kvU (d : List (Str × Unit)) : List (Key × MV) := kvF uM d
def lookedB (seen heads : List (Str × Unit)) (n : Str) : Bool := (getA seen n).isSome || heads.any fun p => underB n p.1
/-- the fields of a record -/
def recF (start stamp : Nat) (mood : Str) (d p s h : Addr) : List (Str × MV) := [("start", .im (.int start)), ("stamp", .im (.int stamp)), ("mood", .im (.str mood)), ("done", .mu d), ("puts", .mu p), ("seen", .mu s), ("heads", .mu h)]
def mp_Record_init (K : PySem.W.Frag) : Mp := fun ms S Q _ => ∃ (a dx : Addr) (n : Nat), ms = [.mu a, .im (.int n)] ∧ S a = some (.ins (He.ga K "Record") dx []) ∧
  ∀ d p s h : Addr, [a, d, p, s, h].Nodup → S d = none → S p = none → S s = none → S h = none → ∀ dx', Q (.im .non) (mup (mup (mup (mup (mup S d (.lst [])) p (.lst [])) s (.dct [])) h (.dct [])) a (.ins (He.ga K "Record") dx' (recF n 0 "open" d p s h)))
def mp_Record_written (K : PySem.W.Frag) : Mp := fun ms S Q _ => ∃ (a dx p : Addr) (fs : List (Str × MV)) (ps : Puts), ms = [.mu a] ∧ S a = some (.ins (He.ga K "Record") dx fs) ∧ fs.lookup ("puts" : Str) = some (.mu p) ∧ S p = some (.lst ((pairsD ps).map .im)) ∧ ps.length ≤ 60000 ∧ ∀ q, S q = none → Q (.mu q) (mup S q (.dct (kvV (lastA ps))))
def mp_Record_looked (K : PySem.W.Frag) : Mp := fun ms S Q _ => ∃ (a dx b c : Addr) (fs : List (Str × MV)) (seen heads : List (Str × Unit)) (n : Str), ms = [.mu a, .im (.str n)] ∧ S a = some (.ins (He.ga K "Record") dx fs) ∧ fs.lookup ("seen" : Str) = some (.mu b) ∧ fs.lookup ("heads" : Str) = some (.mu c) ∧ DcM S b (kvU seen) ∧ S c = some (.dct (kvU heads)) ∧ n.length ≤ 60000 ∧ (∀ p ∈ heads, p.1.length ≤ 60000) ∧ Q (.im (.bl (lookedB seen heads n))) S
abbrev sp_Record_init (_ : Program) (_ : World) (K : PySem.W.Frag) : Sp := lift K (mp_Record_init K)
abbrev sp_Record_written (_ : Program) (_ : World) (K : PySem.W.Frag) : Sp := lift K (mp_Record_written K)
abbrev sp_Record_looked (_ : Program) (_ : World) (K : PySem.W.Frag) : Sp := lift K (mp_Record_looked K)
section
variable {P : Program} {w : World} {K : PySem.W.Frag} {vs : List V} {H : Hp} {Q : VK} {E : XK}
theorem len_place_in (h : sp_place_in P w K vs H Q E) : vs.length = 3 := lift_len (by rintro ms S mQ mX ⟨_, _, _, _, _, _, rfl, _⟩; rfl) h
theorem len_newest (h : sp_newest P w K vs H Q E) : vs.length = 2 := lift_len (by rintro ms S mQ mX ⟨_, _, _, rfl, _⟩; rfl) h
theorem len_Record_init (h : sp_Record_init P w K vs H Q E) : vs.length = 2 := lift_len (by rintro ms S mQ mX ⟨_, _, _, rfl, _⟩; rfl) h
theorem len_Record_written (h : sp_Record_written P w K vs H Q E) : vs.length = 1 := lift_len (by rintro ms S mQ mX ⟨_, _, _, _, _, rfl, _⟩; rfl) h
theorem len_Record_looked (h : sp_Record_looked P w K vs H Q E) : vs.length = 2 := lift_len (by rintro ms S mQ mX ⟨_, _, _, _, _, _, _, _, rfl, _⟩; rfl) h
end
end Kr
set_option maxHeartbeats 1000000
namespace Kr
open PySem PySem.Spec L2
theorem nats_len (xs : List Nat) : (dNats xs).length = xs.length := by unfold dNats dInts; simp
theorem natsM_len (xs : List Nat) : ((dNats xs).map MV.im).length = xs.length := by rw [List.length_map, nats_len]
theorem natsM_get {xs : List Nat} {i : Nat} {m : MV} (h : ((dNats xs).map MV.im)[i]? = some m) : ∃ n, xs[i]? = some n ∧ m = .im (.int n) := by
  unfold dNats dInts at h
  rw [List.map_map, List.map_map, List.getElem?_map] at h
  cases e : xs[i]? with
  | none => rw [e] at h; cases h
  | some x => rw [e] at h; cases h; exact ⟨x, rfl, rfl⟩
theorem flat_nats (xs : List Nat) : (dNats xs).all flatD = true := by
  unfold dNats dInts; rw [List.map_map, List.all_map]; exact List.all_eq_true.mpr fun _ _ => rfl
theorem inD_nat (n : Nat) (xs : List Nat) : inD (.int n) (dNats xs) = decide (n ∈ xs) := by
  unfold dNats
  rw [inD_int, Bool.eq_iff_iff, decide_eq_true_iff, decide_eq_true_iff, List.mem_map]
  exact ⟨fun ⟨m, h, e⟩ => by have : m = n := by omega
                             exact this ▸ h, fun h => ⟨n, h, rfl⟩⟩
theorem nats_take (xs : List Nat) (k : Nat) : (dNats xs).take k = dNats (xs.take k) := by unfold dNats dInts; simp only [List.map_take]
theorem findIdx_or {p : Nat → Bool} (xs : List Nat) : (xs.findIdx p < xs.length ∨ xs.findIdx p = xs.length) := Nat.lt_or_eq_of_le List.findIdx_le_length
theorem find_lt {p : Nat → Bool} {xs : List Nat} {i x : Nat} (e : xs[i]? = some x) (h : p x = true) : xs.findIdx p ≤ i := by
  obtain ⟨hi, rfl⟩ := List.getElem?_eq_some_iff.mp e
  exact Nat.not_lt.mp fun hlt => by
    have := List.not_of_lt_findIdx hlt
    rw [h] at this; cases this
theorem find_ne {p : Nat → Bool} {xs : List Nat} {i x : Nat} (e : xs[i]? = some x) (h : p x = false) : xs.findIdx p ≠ i := by
  obtain ⟨hi, rfl⟩ := List.getElem?_eq_some_iff.mp e
  rintro hlt
  have h2 : xs.findIdx p < xs.length := by omega
  have := List.findIdx_getElem (w := h2)
  subst hlt
  rw [h] at this; cases this
section
variable {P : Program} {w : World} {K : PySem.W.Frag} {vs : List V} {H : Hp} {Q : VK} {E : XK}
def t_place_in (P : Program) (w : World) (K : PySem.W.Frag) : TS :=
  (tSeq (tAsg (tCB (c_len K) (tCons (tVar 0) tNil)) (gName 3)) (tSeq (tFor (iEnum K (tCons (tVar 0) tNil)) (gTup K 2 (gCons (gName 4) (gCons (gName 5) gNil))) (tIfS (tTest (tOp (rIn K false) (tVar 5) (tVar 2))) (tAsg (tCB c_min2 (tCons (tVar 3) (tCons (tVar 4) tNil))) (gName 3)) tNext)) (tSeq (tFor (iList K (tVar 1)) (gName 5) (tIfS (tTest (tOp (rIn K true) (tVar 5) (tSl (rSlL K) (tVar 0) tNoPart (tPart (tVar 3))))) (tRet (tC .non)) tNext)) (tRet (tVar 3)))))

def t_newest (P : Program) (w : World) (K : PySem.W.Frag) : TS :=
  (tSeq (tAsg (tC .non) (gName 2)) (tSeq (tFor (iList K (tVar 0)) (gName 3) (tIfS (tTest (tOp r_le (tOp (rIxT K) (tVar 3) (tC (.int 0))) (tVar 1))) (tAsg (tOp (rIxT K) (tVar 3) (tC (.int 1))) (gName 2)) tNext)) (tRet (tVar 2))))

def t_Record_init (P : Program) (w : World) (K : PySem.W.Frag) : TS :=
  (tSeq (sFld K (tVar 0) (tVar 1) "start") (tSeq (sFld K (tVar 0) (tC (.int 0)) "stamp") (tSeq (sFld K (tVar 0) (tC (.str "open")) "mood") (tSeq (sFld K (tVar 0) (tLst tNil) "done") (tSeq (sFld K (tVar 0) (tLst tNil) "puts") (tSeq (sFld K (tVar 0) tDNewK "seen") (sFld K (tVar 0) tDNewK "heads")))))))

def t_Record_written (P : Program) (w : World) (K : PySem.W.Frag) : TS :=
  (tSeq (tAsg tDNewK (gName 1)) (tSeq (tFor (iList K (tFld K (tVar 0) "puts")) (gName 2) (sDPut (tVar 1) (tOp (rIxT K) (tVar 2) (tC (.int 0))) (tOp (rIxT K) (tVar 2) (tC (.int 1))))) (tRet (tVar 1))))

def t_Record_looked (P : Program) (w : World) (K : PySem.W.Frag) : TS :=
  (tSeq (tIfS (tB (tDIn (tVar 1) (tFld K (tVar 0) "seen"))) (tRet (tC (.bl true))) tNext) (tSeq (tLock (tFor (iKeys (tFld K (tVar 0) "heads")) (gName 2) (tIfS (tB (tCall (sp_is_under P w K) [] E0 (tCons (tVar 1) (tCons (tVar 2) tNil)))) (tRet (tC (.bl true))) tNext))) (tRet (tC (.bl false)))))

theorem versM_get {vs : Vers} {i : Nat} {m : MV} (h : ((versD vs).map MV.im)[i]? = some m) : ∃ p, vs[i]? = some p ∧ m = .im (verD p) := by
  unfold versD at h
  rw [List.map_map, List.getElem?_map] at h
  cases e : vs[i]? with
  | none => rw [e] at h; cases h
  | some x => rw [e] at h; cases h; exact ⟨x, rfl, rfl⟩
theorem versM_len (vs : Vers) : ((versD vs).map MV.im).length = vs.length := by unfold versD; simp
theorem newest_take {vs : Vers} {i m : Nat} {p : Nat × Val} (h : vs[i]? = some p) : newestV (vs.take (i + 1)) m = if p.1 ≤ m then p.2 else newestV (vs.take i) m := by
  unfold newestV
  rw [List.take_succ, h, List.foldl_append]; rfl
theorem rd_newest (h : sp_newest P w K vs H Q E) : t_newest P w K { nx := fun _ H' => Q .non H', rt := Q } (start ["rows", "moment", "found", "version"] vs) H := by
  refine rd_N h fun G0 ms S mQ mX h => ?_
  obtain ⟨x, vs, m, rfl, hx, q⟩ := h
  unfold t_newest bodyN
  walk_at "s0"
  walk_at "md"
  refine n_for (i_listX ?_)
  walk_at "md"
  refine ⟨_, hx, fun i E' S' => S' = S ∧ ∃ u, E' = [some x, some (.im (.int m)), some (vM (newestV (vs.take i) m)), u], ⟨rfl, none, rfl⟩, ?_, ?_, ?_⟩
  · rintro i E' S' _ ⟨rfl, _⟩; exact hx
  · rintro i m' E' S' hi em ⟨rfl, u, rfl⟩
    obtain ⟨p, ep, rfl⟩ := versM_get em
    obtain ⟨st, v⟩ := p
    have en := newest_take (m := m) ep
    unfold verD
    walk_at "md"
    refine ⟨fun h => ?_, fun h => ?_⟩
    · have h1 : st ≤ m := by have := of_decide_eq_true h; omega
      walk_at "md"
      exact ⟨rfl, some (.im (verD (st, v))), by rw [en, if_pos h1]; rfl⟩
    · have h1 : ¬ st ≤ m := by have := of_decide_eq_false h; omega
      walk_at "md"
      exact ⟨rfl, some (.im (verD (st, v))), by rw [en, if_neg h1]; rfl⟩
  · rintro E' S' ⟨rfl, u, rfl⟩
    walk_at "md"
    dsimp only
    rw [versM_len, List.take_length]
    exact up q
theorem mup_none {S : MS} {a p : Addr} {o : MO} (h : mup S a o p = none) : p ≠ a ∧ S p = none := by
  unfold mup at h
  split at h
  · cases h
  · next ne => exact ⟨ne, h⟩
theorem rd_Record_init (kf : KF K) (h : sp_Record_init P w K vs H Q E) : t_Record_init P w K { nx := fun _ H' => Q .non H', rt := Q } (start ["self", "start"] vs) H := by
  refine rd_N h fun G0 ms S mQ mX h => ?_
  obtain ⟨a, dx, n, rfl, ha, q⟩ := h
  unfold t_Record_init bodyN
  walk_at "s0"
  walk_at "md"
  refine ⟨a, _, dx, [], rfl, ha, kf.cR, kf.r1, by decide, ?_⟩
  rw [show putFM "start" (.im (.int (n : Nat))) [] = (recF n 0 "open" 0 0 0 0).take 1 from rfl]
  walk_at "md"
  refine ⟨a, _, dx, _, rfl, mup_same, kf.cR, kf.r2, by simp [recF], ?_⟩
  rw [show putFM "stamp" (.im (.int 0)) ((recF n 0 "open" 0 0 0 0).take 1) = (recF n 0 "open" 0 0 0 0).take 2 from rfl]
  walk_at "md"
  refine ⟨a, _, dx, _, rfl, mup_same, kf.cR, kf.r3, by simp [recF], ?_⟩
  rw [show putFM "mood" (.im (.str "open")) ((recF n 0 "open" 0 0 0 0).take 2) = (recF n 0 "open" 0 0 0 0).take 3 from rfl]
  walk_at "md"
  refine m_lstM ?_
  walk_at "md"
  refine ⟨by simp, fun d hd => ?_⟩
  walk_at "md"
  refine ⟨a, _, dx, _, rfl, by walk_at "st", kf.cR, kf.r4, by simp [recF], ?_⟩
  rw [show putFM "done" (.mu d) ((recF n 0 "open" 0 0 0 0).take 3) = (recF n 0 "open" d 0 0 0).take 4 from rfl]
  walk_at "md"
  refine m_lstM ?_
  walk_at "md"
  refine ⟨by simp, fun p hp => ?_⟩
  walk_at "md"
  refine ⟨a, _, dx, _, rfl, by walk_at "st", kf.cR, kf.r5, by simp [recF], ?_⟩
  rw [show putFM "puts" (.mu p) ((recF n 0 "open" d 0 0 0).take 4) = (recF n 0 "open" d p 0 0).take 5 from rfl]
  walk_at "md"
  refine m_dNew fun s hs => ?_
  walk_at "md"
  refine ⟨a, _, dx, _, rfl, by walk_at "st", kf.cR, kf.r6, by simp [recF], ?_⟩
  rw [show putFM "seen" (.mu s) ((recF n 0 "open" d p 0 0).take 5) = (recF n 0 "open" d p s 0).take 6 from rfl]
  walk_at "md"
  refine m_dNew fun h hh => ?_
  walk_at "md"
  refine ⟨a, _, dx, _, rfl, by walk_at "st", kf.cR, kf.r7, by simp [recF], ?_⟩
  rw [show putFM "heads" (.mu h) ((recF n 0 "open" d p s 0).take 6) = recF n 0 "open" d p s h from rfl]
  obtain ⟨_, hh⟩ := mup_none hh
  obtain ⟨n1, hh⟩ := mup_none hh
  obtain ⟨_, hh⟩ := mup_none hh
  obtain ⟨n2, hh⟩ := mup_none hh
  obtain ⟨_, hh⟩ := mup_none hh
  obtain ⟨n3, hh⟩ := mup_none hh
  obtain ⟨_, hh⟩ := mup_none hh
  obtain ⟨_, hh⟩ := mup_none hh
  obtain ⟨n4, hh⟩ := mup_none hh
  obtain ⟨_, hs⟩ := mup_none hs
  obtain ⟨m1, hs⟩ := mup_none hs
  obtain ⟨_, hs⟩ := mup_none hs
  obtain ⟨m2, hs⟩ := mup_none hs
  obtain ⟨_, hs⟩ := mup_none hs
  obtain ⟨_, hs⟩ := mup_none hs
  obtain ⟨m3, hs⟩ := mup_none hs
  obtain ⟨_, hp⟩ := mup_none hp
  obtain ⟨l1, hp⟩ := mup_none hp
  obtain ⟨_, hp⟩ := mup_none hp
  obtain ⟨_, hp⟩ := mup_none hp
  obtain ⟨l2, hp⟩ := mup_none hp
  obtain ⟨_, hd⟩ := mup_none hd
  obtain ⟨_, hd⟩ := mup_none hd
  obtain ⟨k1, hd⟩ := mup_none hd
  have fin := q d p s h (by simp only [List.nodup_cons, List.mem_cons, List.not_mem_nil, or_false, not_or, not_false_eq_true, List.nodup_nil, and_true]; exact ⟨⟨Ne.symm k1, Ne.symm l2, Ne.symm m3, Ne.symm n4⟩, ⟨Ne.symm l1, Ne.symm m2, Ne.symm n3⟩, ⟨Ne.symm m1, Ne.symm n2⟩, Ne.symm n1⟩) hd hp hs hh dx
  refine up ?_
  refine Eq.mp ?_ fin
  congr 1
  funext b
  simp only [mup]
  by_cases h1 : b = a
  · simp [h1]
  · simp [h1]
theorem rd_Record_written (kf : KF K) (h : sp_Record_written P w K vs H Q E) : t_Record_written P w K { nx := fun _ H' => Q .non H', rt := Q } (start ["self", "found", "put"] vs) H := by
  refine rd_N h fun G0 ms S mQ mX h => ?_
  obtain ⟨a, dx, p, fs, ps, rfl, ha, hf, hp, hz, q⟩ := h
  unfold t_Record_written bodyN
  walk_at "s0"
  walk_at "md"
  refine m_dNew fun d hd => ?_
  walk_at "md"
  have l1 : ((pairsD ps).map MV.im).length = ps.length := by unfold pairsD; simp
  refine n_for (i_listX ?_)
  walk_at "md"
  refine ⟨a, _, dx, fs, _, rfl, by walk_at "st", kf.cR, kf.r5, hf, ?_⟩
  have hl : ∀ o, LsM (mup S d o) (.mu p) ((pairsD ps).map .im) := fun o => (LsM.mu hp).sub (Sub.rfl'.mup hd)
  refine ⟨_, hl _, fun i E' S' => S' = mup S d (.dct (kvV (lastA (ps.take i)))) ∧ ∃ u, E' = [some (.mu a), some (.mu d), u], ⟨rfl, none, rfl⟩, ?_, ?_, ?_⟩
  · rintro i E' S' _ ⟨rfl, _⟩; exact hl _
  · rintro i m E' S' hi hm ⟨rfl, u, rfl⟩
    have hi' : i < ps.length := by rw [← l1]; exact hi
    have e1 : ps[i]? = some ps[i] := List.getElem?_eq_getElem hi'
    have hm' : ((pairsD ps).map MV.im)[i]? = some m := hm
    rw [pairsM_get e1] at hm'
    cases hm'
    unfold pairD
    walk_at "md"
    refine ⟨_, _, _, rfl, rfl, mup_same, by rw [kvF_len]; have := length_last (ps.take i); rw [List.length_take] at this; omega, ?_⟩
    rw [mup_mup, putM_kvF (f := vM)]
    exact ⟨by rw [take_last e1], _, rfl⟩
  · rintro E' S' ⟨rfl, u, rfl⟩
    walk_at "md"
    have : ps.take ((pairsD ps).map MV.im).length = ps := by rw [l1, List.take_length]
    dsimp only
    rw [this]
    exact up (q d hd)
theorem rd_Record_looked (kf : KF K) (h : sp_Record_looked P w K vs H Q E) : t_Record_looked P w K { nx := fun _ H' => Q .non H', rt := Q } (start ["self", "name", "head"] vs) H := by
  refine rd_N h fun G0 ms S mQ mX h => ?_
  obtain ⟨a, dx, b, c, fs, seen, heads, n, rfl, ha, hf, hg, hb, hc, hn, hh, q⟩ := h
  unfold t_Record_looked bodyN
  walk_at "s0"
  walk_at "md"
  refine ⟨a, _, dx, fs, _, rfl, ha, kf.cR, kf.r6, hf, ?_⟩
  refine ⟨b, n, _, rfl, rfl, hb, ?_⟩
  rw [lkM_kvF, show ((getA seen n).map uM).isSome = (getA seen n).isSome by cases getA seen n <;> rfl]
  refine m_bl2 ⟨fun h => ?_, fun h => ?_⟩
  · walk_at "md"
    unfold lookedB at q
    rw [h, Bool.true_or] at q
    exact up q
  unfold lookedB at q
  rw [h, Bool.false_or] at q
  walk_at "md"
  refine n_lock hc fun od u => ?_
  refine n_for (i_keys ?_)
  walk_at "md"
  have nac : a ≠ c := by rintro rfl; rw [ha] at hc; cases hc
  refine ⟨a, _, dx, fs, _, rfl, mup_look ha nac, kf.cR, kf.r7, hg, ?_⟩
  refine ⟨c, od, u, _, rfl, mup_same, fun i E' S' => S' = mup S c (.lck od u (kvU heads)) ∧ (∃ u, E' = [some (.mu a), some (.im (.str n)), u]) ∧ ∀ j < i, ∀ p, heads[j]? = some p → underB n p.1 = false, ⟨rfl, ⟨none, rfl⟩, fun j hj => absurd hj (Nat.not_lt_zero j)⟩, ?_, ?_, ?_⟩
  · rintro i E' S' _ ⟨rfl, _⟩; exact mup_same
  · rintro i m E' S' hi ⟨k, v, hk, rfl⟩ ⟨rfl, ⟨u', rfl⟩, hall⟩
    obtain ⟨p, ep, rfl, rfl⟩ := kvF_get hk
    unfold kD
    walk_at "md"
    refine ⟨n, p.1, rfl, hn, hh p (List.mem_of_getElem? ep), ?_⟩
    walk_at "md"
    refine ⟨fun h2 => ?_, fun h2 => ?_⟩
    · walk_at "md"
      refine ⟨mup_same, ?_⟩
      rw [mup_mup, mup_self hc]
      rw [show (heads.any fun p => underB n p.1) = true from List.any_eq_true.mpr ⟨p, List.mem_of_getElem? ep, h2⟩] at q
      exact up q
    · walk_at "md"
      refine ⟨rfl, ⟨_, rfl⟩, fun j hj x hx => ?_⟩
      by_cases hji : j = i
      · subst hji; rw [ep] at hx; cases hx; exact h2
      · exact hall j (by omega) x hx
  · rintro E' S' ⟨rfl, ⟨u', rfl⟩, hall⟩
    refine ⟨mup_same, ?_⟩
    rw [mup_mup, mup_self hc]
    walk_at "md"
    rw [show (heads.any fun p => underB n p.1) = false by
      rw [List.any_eq_false]
      intro p hp
      obtain ⟨j, hj, rfl⟩ := List.getElem_of_mem hp
      rw [hall j (by show j < (kvF uM heads).length; rw [kvF_len]; exact hj) _ (List.getElem?_eq_getElem hj)]
      decide] at q
    exact up q
theorem rd_place_in (h : sp_place_in P w K vs H Q E) : t_place_in P w K { nx := fun _ H' => Q .non H', rt := Q } (start ["row", "ahead", "behind", "place", "k", "number"] vs) H := by
  refine rd_N h fun G0 ms S mQ mX h => ?_
  obtain ⟨x, y, z, row, ahead, behind, rfl, hx, hy, hz, hl, q⟩ := h
  unfold t_place_in bodyN
  walk_at "s0"
  walk_at "md"
  refine m_lenX hx ?_
  rw [natsM_len]
  walk_at "md"
  generalize hf : row.findIdx (fun x => decide (x ∈ behind)) = f
  refine n_forE ?_
  walk_at "md"
  refine ⟨_, hx, fun i E' S' => S' = S ∧ ∃ u v, E' = [some x, some y, some z, some (.im (.int (if f < i then f else row.length : Nat))), u, v], ⟨rfl, none, none, rfl⟩, ?_, ?_, ?_⟩
  · rintro i E' S' _ ⟨rfl, _⟩; exact hx
  · rintro i m E' S' em hi ⟨rfl, u, v, rfl⟩
    obtain ⟨n, en, rfl⟩ := natsM_get em
    walk_at "md"
    refine m_inX hz rfl (flat_nats _) ?_
    rw [inD_nat]
    simp only [Bool.false_eq_true, if_false]
    walk_at "md"
    refine ⟨fun h => ?_, fun h => ?_⟩
    · have h1 := find_lt (p := fun x => decide (x ∈ behind)) en h
      rw [hf] at h1
      walk_at "md"
      refine ⟨rfl, some (.im (.int i)), some (.im (.int n)), ?_⟩
      have : (if (i : Int) < ((if f < i then f else row.length : Nat) : Int) then (i : Int) else ((if f < i then f else row.length : Nat) : Int)) = ((if f < i + 1 then f else row.length : Nat) : Int) := by
        rw [natsM_len] at hi
        rw [if_pos (show f < i + 1 by omega)]
        by_cases h2 : f < i
        · rw [if_pos h2, if_neg (by omega)]
        · rw [if_neg h2, if_pos (by omega)]; omega
      rw [this]; rfl
    · have h1 := find_ne (p := fun x => decide (x ∈ behind)) en h
      rw [hf] at h1
      walk_at "md"
      refine ⟨rfl, some (.im (.int i)), some (.im (.int n)), ?_⟩
      have : (if f < i then f else row.length : Nat) = (if f < i + 1 then f else row.length : Nat) := by
        by_cases h2 : f < i
        · rw [if_pos h2, if_pos (by omega)]
        · rw [if_neg h2, if_neg (by omega)]
      rw [this]; rfl
  · rintro E' S' ⟨rfl, u, v, rfl⟩
    have efin : (if f < ((dNats row).map MV.im).length then f else row.length : Nat) = f := by
      rw [natsM_len, ← hf]
      rcases findIdx_or (p := fun x => decide (x ∈ behind)) row with h | h
      · rw [if_pos h]
      · rw [if_neg (by omega)]; exact h.symm
    rw [efin]
    walk_at "md"
    refine n_for (i_listX ?_)
    walk_at "md"
    refine ⟨_, hy, fun i E'' S'' => S'' = S' ∧ (∃ u v, E'' = [some x, some y, some z, some (.im (.int f)), u, v]) ∧ ∀ j < i, ∀ a, ahead[j]? = some a → a ∈ row.take f, ⟨rfl, ⟨_, _, rfl⟩, fun j hj => absurd hj (Nat.not_lt_zero j)⟩, ?_, ?_, ?_⟩
    · rintro i E' S' _ ⟨rfl, _⟩; exact hy
    · rintro i m E' S' hi em ⟨rfl, ⟨u, v, rfl⟩, hall⟩
      obtain ⟨n, en, rfl⟩ := natsM_get em
      walk_at "md"
      refine m_slXI hx ?_
      rw [cutD_pre, nats_take]
      refine m_inX (.im _) rfl (flat_nats _) ?_
      rw [inD_nat]
      simp only [if_true]
      refine m_bl2 ⟨fun h => ?_, fun h => ?_⟩
      · walk_at "md"
        have hn : ¬ n ∈ row.take f := by simpa using h
        have : placeIn row ahead behind = none := by
          unfold placeIn
          rw [hf]
          dsimp only
          rw [if_neg]
          intro hall2
          rw [List.all_eq_true] at hall2
          exact hn (of_decide_eq_true (hall2 n (List.mem_of_getElem? en)))
        rw [this] at q
        exact up q
      · have hn : n ∈ row.take f := by simpa using h
        walk_at "md"
        refine ⟨rfl, ⟨_, _, rfl⟩, fun j hj a ha => ?_⟩
        by_cases hji : j = i
        · subst hji; rw [en] at ha; cases ha; exact hn
        · exact hall j (by omega) a ha
    · rintro E' S' ⟨rfl, ⟨u, v, rfl⟩, hall⟩
      walk_at "md"
      have : placeIn row ahead behind = some f := by
        unfold placeIn
        rw [hf]
        dsimp only
        rw [if_pos]
        rw [List.all_eq_true]
        intro a ha
        obtain ⟨j, hj, rfl⟩ := List.getElem_of_mem ha
        exact decide_eq_true (hall j (by dsimp only; rw [natsM_len]; exact hj) _ (List.getElem?_eq_getElem hj))
      rw [this] at q
      exact up q
end
end Kr
set_option maxHeartbeats 1000000
namespace Kr
open PySem PySem.Spec L2
/-! ### the shelf, plain -/
inductive Deed where
  | read (n : Str) (v : Val)
  | under (h : Str) (ps : Puts)
  | write (n : Str) (v : Val)
  | back (k : Nat)
def deedD : Deed → D
  | .read n v => .tup [.str "read", .str n, valD v]
  | .under h ps => .tup [.str "under", .str h, .lst (pairsD ps)]
  | .write n v => .tup [.str "write", .str n, valD v]
  | .back k => .tup [.str "back", .int k]
structure RecM where
  start : Nat
  stamp : Nat
  mood : Str
  done : List Deed
  puts : Puts
  seen : List (Str × Unit)
  heads : List (Str × Unit)
abbrev RecM.own (r : RecM) : Puts := lastA r.puts
def RecM.looked (r : RecM) (n : Str) : Bool := lookedB r.seen r.heads n
structure ShM where
  recs : List RecM
  row : List Nat
  rows : List (Str × Vers)
structure RecOk (r : RecM) : Prop where
  puts : r.puts.length ≤ 50000
  own : r.own.length ≤ 160
  done : r.done.length ≤ 50000
  seen : r.seen.length ≤ 50000
  heads : r.heads.length ≤ 50000
  nm : ∀ p ∈ r.puts, NameOk p.1
  hd : ∀ p ∈ r.heads, HeadOk p.1
structure ShOk (M : ShM) : Prop where
  nm : ∀ p ∈ M.rows, NameOk p.1
  vr : ∀ p ∈ M.rows, p.2.length ≤ 50000
  nd : (keysA M.rows).Nodup
  rows : M.rows.length ≤ 2000
  recs : M.recs.length ≤ 50000
  row : M.row.length ≤ 3000
  inr : ∀ x ∈ M.row, x < M.recs.length
  rc : ∀ r ∈ M.recs, RecOk r
def ShM.known (M : ShM) : D → Option Nat
  | .int i => if 0 ≤ i ∧ i < M.recs.length then some i.toNat else none
  | _ => none
def ShM.going (M : ShM) (d : D) : Except Str Nat :=
  match M.known d with
  | none => .error "NoDealing"
  | some i => if (M.recs[i]?.map (·.mood)) = some ("open" : Str) then .ok i else .error "Over"
def ShM.vers (M : ShM) (n : Str) : Vers := (getA M.rows n).getD []
def ShM.seenBy (M : ShM) (r : RecM) (n : Str) : Val := (getA r.own n).getD (newestV (M.vers n) r.start)
def ShM.setRec (M : ShM) (i : Nat) (r : RecM) : ShM := { M with recs := M.recs.set i r }
/-! ### where it stands -/
inductive Tag where
  | s | ar | aw | ad | ver (j : Nat) | rcd (i k : Nat)
  deriving DecidableEq
structure RecA where
  a : Addr
  d : Addr
  p : Addr
  s : Addr
  h : Addr
structure ShA where
  ar : Addr
  aw : Addr
  ad : Addr
  recs : List RecA
  vers : List Addr
  T : Addr → Option Tag
structure RecAt (K : PySem.W.Frag) (S : MS) (A : RecA) (r : RecM) : Prop where
  a : ∃ dx, S A.a = some (.ins (He.ga K "Record") dx (recF r.start r.stamp r.mood A.d A.p A.s A.h))
  d : S A.d = some (.lst (r.done.map fun d => .im (deedD d)))
  p : S A.p = some (.lst ((pairsD r.puts).map .im))
  s : S A.s = some (.dct (kvU r.seen))
  h : S A.h = some (.dct (kvU r.heads))
def shF (A : ShA) : List (Str × MV) := [("records", .mu A.ar), ("row", .mu A.aw), ("rows", .mu A.ad)]
structure ShAt (K : PySem.W.Frag) (S : MS) (s : Addr) (A : ShA) (M : ShM) : Prop where
  ts : A.T s = some .s
  tr : A.T A.ar = some .ar
  tw : A.T A.aw = some .aw
  td : A.T A.ad = some .ad
  tv : ∀ (j : Nat) a, A.vers[j]? = some a → A.T a = some (.ver j)
  tR : ∀ (i : Nat) R, A.recs[i]? = some R → A.T R.a = some (.rcd i 0) ∧ A.T R.d = some (.rcd i 1) ∧ A.T R.p = some (.rcd i 2) ∧ A.T R.s = some (.rcd i 3) ∧ A.T R.h = some (.rcd i 4)
  s0 : ∃ dx, S s = some (.ins (He.ga K "Shelf") dx (shF A))
  r0 : S A.ar = some (.lst (A.recs.map fun R => .mu R.a))
  w0 : S A.aw = some (.lst ((dNats M.row).map .im))
  d0 : S A.ad = some (.dct (kvF MV.mu ((keysA M.rows).zip A.vers)))
  lr : A.recs.length = M.recs.length
  lv : A.vers.length = M.rows.length
  rc : ∀ (i : Nat) R r, A.recs[i]? = some R → M.recs[i]? = some r → RecAt K S R r
  vr : ∀ (j : Nat) a p, A.vers[j]? = some a → M.rows[j]? = some p → S a = some (.lst ((versD p.2).map .im))
theorem tag_ne {T : Addr → Option Tag} {x y : Addr} {t u : Tag} (h : T x = some t) (g : T y = some u) (ne : t ≠ u) : x ≠ y := by
  rintro rfl; rw [h] at g; exact ne (Option.some.inj g)
section
variable {K : PySem.W.Frag} {S S' : MS} {s : Addr} {A : ShA} {M : ShM} {i j : Nat} {R : RecA} {r r' : RecM}
theorem RecAt.sub (h : RecAt K S R r) (g : Sub S S') : RecAt K S' R r := ⟨let ⟨dx, e⟩ := h.a; ⟨dx, g _ _ e⟩, g _ _ h.d, g _ _ h.p, g _ _ h.s, g _ _ h.h⟩
theorem ShAt.sub (h : ShAt K S s A M) (g : Sub S S') : ShAt K S' s A M :=
  ⟨h.ts, h.tr, h.tw, h.td, h.tv, h.tR, let ⟨dx, e⟩ := h.s0; ⟨dx, g _ _ e⟩, g _ _ h.r0, g _ _ h.w0, g _ _ h.d0, h.lr, h.lv, fun i R r e f => (h.rc i R r e f).sub g, fun j a p e f => g _ _ (h.vr j a p e f)⟩
theorem sub_ov {S S1 : MS} : Sub S1 (ov S S1) := fun _ _ h => ov_in h
/-- the record of a dealing that has begun -/
theorem ShAt.rec_ (h : ShAt K S s A M) (hr : M.recs[i]? = some r) : ∃ R, A.recs[i]? = some R ∧ RecAt K S R r := by
  have hi : i < A.recs.length := by rw [h.lr]; exact (List.getElem?_eq_some_iff.mp hr).1
  exact ⟨A.recs[i], List.getElem?_eq_getElem hi, h.rc i _ r (List.getElem?_eq_getElem hi) hr⟩
theorem ShAt.ver_ (h : ShAt K S s A M) {p : Str × Vers} (hr : M.rows[j]? = some p) : ∃ a, A.vers[j]? = some a ∧ S a = some (.lst ((versD p.2).map .im)) := by
  have hi : j < A.vers.length := by rw [h.lv]; exact (List.getElem?_eq_some_iff.mp hr).1
  exact ⟨A.vers[j], List.getElem?_eq_getElem hi, h.vr j _ p (List.getElem?_eq_getElem hi) hr⟩
/-- a record's own things are changed -/
theorem ShAt.setRec (h : ShAt K S s A M) (hR : A.recs[i]? = some R) (g : ∀ b o, (∀ k, A.T b ≠ some (.rcd i k)) → S b = some o → S' b = some o) (hr : RecAt K S' R r') : ShAt K S' s A (M.setRec i r') where
  ts := h.ts
  tr := h.tr
  tw := h.tw
  td := h.td
  tv := h.tv
  tR := h.tR
  s0 := let ⟨dx, e⟩ := h.s0; ⟨dx, g _ _ (fun k z => by rw [h.ts] at z; cases z) e⟩
  r0 := g _ _ (fun k z => by rw [h.tr] at z; cases z) h.r0
  w0 := g _ _ (fun k z => by rw [h.tw] at z; cases z) h.w0
  d0 := g _ _ (fun k z => by rw [h.td] at z; cases z) h.d0
  lr := by rw [h.lr]; exact (List.length_set).symm
  lv := h.lv
  rc := fun j R2 r2 e f => by
    by_cases ji : i = j
    · subst ji
      rw [hR] at e; cases e
      have : r2 = r' := by
        have f' : (M.recs.set i r')[i]? = some r2 := f
        rw [List.getElem?_set_self (by rw [← h.lr]; exact (List.getElem?_eq_some_iff.mp hR).1)] at f'
        exact (Option.some.inj f').symm
      subst this; exact hr
    · have f' : (M.recs.set i r')[j]? = some r2 := f
      rw [List.getElem?_set_ne ji] at f'
      have q := h.rc j R2 r2 e f'
      obtain ⟨t1, t2, t3, t4, t5⟩ := h.tR j R2 e
      have nn : ∀ k k', (Tag.rcd j k) ≠ .rcd i k' := fun k k' z => by cases z; exact ji rfl
      have hh : ∀ b k, A.T b = some (.rcd j k) → ∀ k', A.T b ≠ some (.rcd i k') := fun b k z k' z2 => by rw [z] at z2; exact nn k k' (Option.some.inj z2)
      exact ⟨let ⟨dx, e⟩ := q.a; ⟨dx, g _ _ (hh _ _ t1) e⟩, g _ _ (hh _ _ t2) q.d, g _ _ (hh _ _ t3) q.p, g _ _ (hh _ _ t4) q.s, g _ _ (hh _ _ t5) q.h⟩
  vr := fun j a p e f => g _ _ (fun k z => by rw [h.tv j a e] at z; cases z) (h.vr j a p e f)
/-! names' versions -/
theorem zip_get {rows : List (Str × Vers)} {vers : List Addr} {n : Str} (hl : vers.length = rows.length) : (getA ((keysA rows).zip vers) n = none ∧ getA rows n = none) ∨ ∃ (j : Nat) (a : Addr) (p : Str × Vers), getA ((keysA rows).zip vers) n = some a ∧ vers[j]? = some a ∧ rows[j]? = some p ∧ p.1 = n ∧ getA rows n = some p.2 := by
  induction rows generalizing vers with
  | nil => cases vers with
    | nil => exact .inl ⟨rfl, rfl⟩
    | cons => cases hl
  | cons p rows ih =>
    cases vers with
    | nil => cases hl
    | cons a vers =>
      have e : (keysA (p :: rows)).zip (a :: vers) = (p.1, a) :: (keysA rows).zip vers := rfl
      rw [e, getA_cons, getA_cons]
      by_cases h : p.1 = n
      · rw [if_pos h, if_pos h]; exact .inr ⟨0, a, p, rfl, rfl, rfl, h, rfl⟩
      · rw [if_neg h, if_neg h]
        rcases ih (vers := vers) (by simpa using hl) with q | ⟨j, a2, p2, h1, h2, h3, h4⟩
        · exact .inl q
        · exact .inr ⟨j + 1, a2, p2, h1, h2, h3, h4⟩
/-- self.rows.get(name, []) -/
theorem ShAt.get_ (h : ShAt K S s A M) (n : Str) : LsM S ((lkM (kvF MV.mu ((keysA M.rows).zip A.vers)) n).getD (.im (.lst []))) ((versD (M.vers n)).map .im) := by
  unfold ShM.vers
  rw [lkM_kvF]
  rcases zip_get (n := n) h.lv with ⟨h1, h2⟩ | ⟨j, a, p, h1, h2, h3, h4, h5⟩
  · rw [h1, h2]; exact .im []
  · rw [h1, h5]; exact .mu (h.vr j a p h2 h3)
end
/-! ### opened, closed -/
def shO (K : PySem.W.Frag) (M : ShM) : MO := absO (He.ga K "Shelf") ["records", "row", "rows"] fun s S => ∃ A, ShAt K S s A M
section
variable {K : PySem.W.Frag} {G0 : Hp} {E : Env} {S S1 S2 : MS} {s : Addr} {A : ShA} {M M' : ShM} {N : ME} {ts : TS} {Q : MV → MS → Prop} {m : MV}
theorem sh_open (h : S s = some (shO K M)) (q : ∀ S1 A, ShAt K S1 s A M → Dj (mer S s) S1 → EvS K G0 ts E (ov (mer S s) S1) N) : EvS K G0 ts E S N := s_open h fun S1 ⟨A, hA⟩ dj => q S1 A hA dj
theorem sh_go (h : ShAt K S2 s A M') (dj : Dj (mer S s) S2) : Go K m (ov (mer S s) S2) m (mup S s (shO K M')) := by
  obtain ⟨dx, e⟩ := h.s0
  exact go_close dj ⟨A, h⟩ e rfl
theorem sh_up (h : ShAt K S2 s A M') (dj : Dj (mer S s) S2) (q : Q m (mup S s (shO K M'))) : Up K Q m (ov (mer S s) S2) := up_go (sh_go h dj) (up q)
theorem sh_same (hs : S s = some (shO K M)) (h : ShAt K S2 s A M) (dj : Dj (mer S s) S2) (q : Q m S) : Up K Q m (ov (mer S s) S2) := sh_up h dj (by rw [mup_self hs]; exact q)
theorem sh_upX {X : Value → MS → Prop} {c : Value} (h : ShAt K S2 s A M') (dj : Dj (mer S s) S2) (q : X c (mup S s (shO K M'))) : UpX K X c (ov (mer S s) S2) := upX_go (sh_go h dj) (upX q)
theorem sh_sameX {X : Value → MS → Prop} {c : Value} (hs : S s = some (shO K M)) (h : ShAt K S2 s A M) (dj : Dj (mer S s) S2) (q : X c S) : UpX K X c (ov (mer S s) S2) := sh_upX h dj (by rw [mup_self hs]; exact q)
end
/-! ### the shelf's own defs -/
section
variable {K : PySem.W.Frag} {G0 : Hp} {E : Env} {S S1 S2 : MS} {s : Addr} {A : ShA} {M M' : ShM} {i : Nat} {te : TE} {Q : MV → MS → Prop} {R : RecA} {r : RecM}
theorem f_recs (kf : KF K) (h : ShAt K S s A M) (q : Q (.mu A.ar) S) : FldM K "records" Q (.mu s) S := let ⟨dx, e⟩ := h.s0; ⟨s, _, dx, _, _, rfl, e, kf.cS, kf.s1, rfl, q⟩
theorem f_row (kf : KF K) (h : ShAt K S s A M) (q : Q (.mu A.aw) S) : FldM K "row" Q (.mu s) S := let ⟨dx, e⟩ := h.s0; ⟨s, _, dx, _, _, rfl, e, kf.cS, kf.s2, rfl, q⟩
theorem f_rows (kf : KF K) (h : ShAt K S s A M) (q : Q (.mu A.ad) S) : FldM K "rows" Q (.mu s) S := let ⟨dx, e⟩ := h.s0; ⟨s, _, dx, _, _, rfl, e, kf.cS, kf.s3, rfl, q⟩
theorem f_start (kf : KF K) (h : RecAt K S R r) (q : Q (.im (.int r.start)) S) : FldM K "start" Q (.mu R.a) S := let ⟨dx, e⟩ := h.a; ⟨_, _, dx, _, _, rfl, e, kf.cR, kf.r1, rfl, q⟩
theorem f_stamp (kf : KF K) (h : RecAt K S R r) (q : Q (.im (.int r.stamp)) S) : FldM K "stamp" Q (.mu R.a) S := let ⟨dx, e⟩ := h.a; ⟨_, _, dx, _, _, rfl, e, kf.cR, kf.r2, rfl, q⟩
theorem f_mood (kf : KF K) (h : RecAt K S R r) (q : Q (.im (.str r.mood)) S) : FldM K "mood" Q (.mu R.a) S := let ⟨dx, e⟩ := h.a; ⟨_, _, dx, _, _, rfl, e, kf.cR, kf.r3, rfl, q⟩
theorem f_done (kf : KF K) (h : RecAt K S R r) (q : Q (.mu R.d) S) : FldM K "done" Q (.mu R.a) S := let ⟨dx, e⟩ := h.a; ⟨_, _, dx, _, _, rfl, e, kf.cR, kf.r4, rfl, q⟩
theorem f_puts (kf : KF K) (h : RecAt K S R r) (q : Q (.mu R.p) S) : FldM K "puts" Q (.mu R.a) S := let ⟨dx, e⟩ := h.a; ⟨_, _, dx, _, _, rfl, e, kf.cR, kf.r5, rfl, q⟩
theorem f_seen (kf : KF K) (h : RecAt K S R r) (q : Q (.mu R.s) S) : FldM K "seen" Q (.mu R.a) S := let ⟨dx, e⟩ := h.a; ⟨_, _, dx, _, _, rfl, e, kf.cR, kf.r6, rfl, q⟩
theorem f_heads (kf : KF K) (h : RecAt K S R r) (q : Q (.mu R.h) S) : FldM K "heads" Q (.mu R.a) S := let ⟨dx, e⟩ := h.a; ⟨_, _, dx, _, _, rfl, e, kf.cR, kf.r7, rfl, q⟩
/-- self.m(..), the shelf standing open or closed -/
theorem i_sh (h : ShAt K S s A M) {f : Str} (hf : f ∉ (["records", "row", "rows"] : List Str)) : InsM S s (He.ga K "Shelf") f := let ⟨dx, e⟩ := h.s0; .ins e hf
theorem i_shO (h : S s = some (shO K M)) {f : Str} (hf : f ∉ (["records", "row", "rows"] : List Str)) : InsM S s (He.ga K "Shelf") f := .abs h hf
theorem i_rec (h : RecAt K S R r) {f : Str} (hf : f ∉ (["start", "stamp", "mood", "done", "puts", "seen", "heads"] : List Str)) : InsM S R.a (He.ga K "Record") f := let ⟨dx, e⟩ := h.a; .ins e hf
theorem p_written (h : RecAt K S R r) (hz : r.puts.length ≤ 60000) {X : Value → MS → Prop} (q : ∀ b, S b = none → Q (.mu b) (mup S b (.dct (kvV r.own)))) : mp_Record_written K [.mu R.a] S Q X := let ⟨dx, e⟩ := h.a; ⟨R.a, dx, R.p, _, r.puts, rfl, e, rfl, h.p, hz, q⟩
theorem p_looked (h : RecAt K S R r) {n : Str} (hn : n.length ≤ 60000) (hh : ∀ p ∈ r.heads, HeadOk p.1) {X : Value → MS → Prop} (q : Q (.im (.bl (r.looked n))) S) : mp_Record_looked K [.mu R.a, .im (.str n)] S Q X := let ⟨dx, e⟩ := h.a; ⟨R.a, dx, R.s, R.h, _, r.seen, r.heads, n, rfl, e, rfl, rfl, .d h.s, h.h, hn, fun p hp => by have := (hh p hp).2; omega, q⟩
end
def exc (K : PySem.W.Frag) (c : Str) : Value := .ref (He.ga K c)
def mp_Shelf_known (K : PySem.W.Frag) : Mp := fun ms S Q X => ∃ (s : Addr) (A : ShA) (M : ShM) (d : D), ms = [.mu s, .im d] ∧ ShAt K S s A M ∧ okIn d ∧ match M.known d with | none => X (exc K "NoDealing") S | some i => ∀ R r, A.recs[i]? = some R → M.recs[i]? = some r → RecAt K S R r → Q (.mu R.a) S
def mp_Shelf_going (K : PySem.W.Frag) : Mp := fun ms S Q X => ∃ (s : Addr) (A : ShA) (M : ShM) (d : D), ms = [.mu s, .im d] ∧ ShAt K S s A M ∧ okIn d ∧ match M.going d with | .error c => X (exc K c) S | .ok i => ∀ R r, A.recs[i]? = some R → M.recs[i]? = some r → RecAt K S R r → r.mood = "open" → Q (.mu R.a) S
def mp_Shelf_seen_by (K : PySem.W.Frag) : Mp := fun ms S Q _ => ∃ (s : Addr) (A : ShA) (M : ShM) (i : Nat) (R : RecA) (r : RecM) (n : Str), ms = [.mu s, .mu R.a, .im (.str n)] ∧ ShAt K S s A M ∧ A.recs[i]? = some R ∧ RecAt K S R r ∧ r.puts.length ≤ 60000 ∧ Q (vM (M.seenBy r n)) S
abbrev sp_Shelf_known (_ : Program) (_ : World) (K : PySem.W.Frag) : Sp := lift K (mp_Shelf_known K)
abbrev sp_Shelf_going (_ : Program) (_ : World) (K : PySem.W.Frag) : Sp := lift K (mp_Shelf_going K)
abbrev sp_Shelf_seen_by (_ : Program) (_ : World) (K : PySem.W.Frag) : Sp := lift K (mp_Shelf_seen_by K)
def t_Shelf_known (P : Program) (w : World) (K : PySem.W.Frag) (E : XK) : TS :=
  (tSeq (tIfS (tOr (tNot (tB (tCall (sp_is_whole P w K) [] E0 (tCons (tVar 1) tNil)))) (tNot (tTest (tChain r_le r_lt (tC (.int 0)) (tVar 1) (tCB (c_len K) (tCons (tFld K (tVar 0) "records") tNil)))))) (tRaise E (.ref (He.ga K "NoDealing"))) tNext) (tRet (tOp (rIxL K) (tFld K (tVar 0) "records") (tVar 1))))

def t_Shelf_going (P : Program) (w : World) (K : PySem.W.Frag) (E : XK) : TS :=
  (tSeq (tAsg (tMeth (He.ga K "Shelf") "known" (sp_Shelf_known P w K) [] E (tVar 0) (tCons (tVar 1) tNil)) (gName 2)) (tSeq (tIfS (tTest (tOp rNe (tFld K (tVar 2) "mood") (tC (.str "open")))) (tRaise E (.ref (He.ga K "Over"))) tNext) (tRet (tVar 2))))

def t_Shelf_seen_by (P : Program) (w : World) (K : PySem.W.Frag) : TS :=
  (tSeq (tAsg (tMeth (He.ga K "Record") "written" (sp_Record_written P w K) [] E0 (tVar 1) tNil) (gName 3)) (tSeq (tIfS (tB (tDIn (tVar 2) (tVar 3))) (tRet (tDGet (tVar 3) (tVar 2))) tNext) (tRet (tCall (sp_newest P w K) [] E0 (tCons (tDGet2 (tFld K (tVar 0) "rows") (tVar 2) (tLst tNil)) (tCons (tFld K (tVar 1) "start") tNil))))))

section
variable {P : Program} {w : World} {K : PySem.W.Frag} {vs : List V} {H : Hp} {Q : VK} {E : XK}
theorem len_Shelf_known (h : sp_Shelf_known P w K vs H Q E) : vs.length = 2 := lift_len (by rintro ms S mQ mX ⟨_, _, _, _, rfl, _⟩; rfl) h
theorem len_Shelf_going (h : sp_Shelf_going P w K vs H Q E) : vs.length = 2 := lift_len (by rintro ms S mQ mX ⟨_, _, _, _, rfl, _⟩; rfl) h
theorem len_Shelf_seen_by (h : sp_Shelf_seen_by P w K vs H Q E) : vs.length = 3 := lift_len (by rintro ms S mQ mX ⟨_, _, _, _, _, _, _, rfl, _⟩; rfl) h
theorem known_lt {M : ShM} {d : D} {i : Nat} (h : M.known d = some i) : i < M.recs.length ∧ d = .int i := by
  unfold ShM.known at h
  cases d with
  | int k =>
    dsimp only at h
    split at h
    · next h2 => cases h; exact ⟨by omega, by congr 1; omega⟩
    · cases h
  | _ => cases h
theorem rd_Shelf_known (kf : KF K) (h : sp_Shelf_known P w K vs H Q E) : t_Shelf_known P w K E { nx := fun _ H' => Q .non H', rt := Q } (start ["self", "number"] vs) H := by
  refine rd_X h fun G0 Ex ms S mQ mX hX h => ?_
  obtain ⟨s, A, M, d, rfl, hA, ok, q⟩ := h
  unfold t_Shelf_known bodyN
  walk_at "s0"
  walk_at "md"
  refine ⟨d, rfl, ok, ?_⟩
  walk_at "md"
  by_cases hd : ∃ k, d = .int k
  · obtain ⟨k, rfl⟩ := hd
    unfold wholeD
    walk_at "md"
    have hl : (A.recs.map fun R => MV.mu R.a).length = M.recs.length := by rw [List.length_map, hA.lr]
    refine ⟨fun h1 => ?_, fun h1 => ?_⟩
    · have h1 := of_decide_eq_true h1
      walk_at "md"
      refine f_recs kf hA ?_
      walk_at "md"
      refine m_lenM hA.r0 ?_
      rw [hl]
      walk_at "md"
      refine ⟨fun h2 => ?_, fun h2 => ?_⟩
      · have h2 : ¬ k < (M.recs.length : Int) := by simpa using h2
        rw [show M.known (.int k) = none by unfold ShM.known; dsimp only; rw [if_neg (fun z => h2 z.2)]] at q
        exact m_raise hX (upX q)
      · have h2 : k < (M.recs.length : Int) := by simpa using h2
        rw [show M.known (.int k) = some k.toNat by unfold ShM.known; dsimp only; rw [if_pos ⟨h1, h2⟩]] at q
        walk_at "md"
        refine f_recs kf hA ?_
        walk_at "md"
        obtain ⟨R, hR, hr⟩ := hA.rec_ (List.getElem?_eq_getElem (show k.toNat < M.recs.length by omega))
        refine m_ixM (m := .mu R.a) hA.r0 ?_ (up (q R _ hR (List.getElem?_eq_getElem (by omega)) hr))
        rw [show k = ((k.toNat : Nat) : Int) by omega, atI_nat, List.getElem?_map, hR]; rfl
    · have h1 := of_decide_eq_false h1
      walk_at "md"
      rw [show M.known (.int k) = none by unfold ShM.known; dsimp only; rw [if_neg (fun z => h1 z.1)]] at q
      exact m_raise hX (upX q)
  · have hw : wholeD d = false := by cases d <;> first | rfl | exact absurd ⟨_, rfl⟩ hd
    rw [hw]
    walk_at "md"
    rw [show M.known d = none by cases d <;> first | rfl | exact absurd ⟨_, rfl⟩ hd] at q
    exact m_raise hX (upX q)
theorem rd_Shelf_going (kf : KF K) (h : sp_Shelf_going P w K vs H Q E) : t_Shelf_going P w K E { nx := fun _ H' => Q .non H', rt := Q } (start ["self", "number", "record"] vs) H := by
  refine rd_X h fun G0 Ex ms S mQ mX hX h => ?_
  obtain ⟨s, A, M, d, rfl, hA, ok, q⟩ := h
  unfold t_Shelf_going bodyN
  walk_at "s0"
  walk_at "md"
  refine m_meth hX ?_
  walk_at "md"
  refine ⟨s, rfl, i_sh hA (by decide +kernel), ?_⟩
  walk_at "md"
  refine ⟨s, A, M, d, rfl, hA, ok, ?_⟩
  unfold ShM.going at q
  cases hk : M.known d with
  | none =>
    rw [hk] at q
    exact upX q
  | some i =>
    rw [hk] at q
    dsimp only at q ⊢
    intro R r hR hr hAt
    rw [hr] at q
    simp only [Option.map_some] at q
    walk_at "md"
    refine f_mood kf hAt ?_
    walk_at "md"
    refine ⟨fun h1 => ?_, fun h1 => ?_⟩
    · have h1 : ¬ r.mood = "open" := by simpa using h1
      rw [if_neg (fun z => h1 (Option.some.inj z))] at q
      exact m_raise hX (upX q)
    · have h1 : r.mood = "open" := by simpa using h1
      rw [if_pos (by rw [h1])] at q
      walk_at "md"
      exact up (q R r hR hr hAt h1)
theorem rd_Shelf_seen_by (kf : KF K) (h : sp_Shelf_seen_by P w K vs H Q E) : t_Shelf_seen_by P w K { nx := fun _ H' => Q .non H', rt := Q } (start ["self", "record", "name", "own"] vs) H := by
  refine rd_N h fun G0 ms S mQ mX h => ?_
  obtain ⟨s, A, M, i, R, r, n, rfl, hA, hR, hr, hz, q⟩ := h
  unfold t_Shelf_seen_by bodyN
  walk_at "s0"
  walk_at "md"
  refine m_meth0 ?_
  walk_at "md"
  refine ⟨R.a, rfl, i_rec hr (by decide +kernel), ?_⟩
  walk_at "md"
  refine p_written hr hz fun b hb => ?_
  have sb := Sub.rfl' (S := S) |>.mup (o := .dct (kvV r.own)) hb
  walk_at "md"
  refine ⟨b, n, _, rfl, rfl, .d mup_same, ?_⟩
  rw [lkM_kvF]
  unfold ShM.seenBy at q
  cases e : getA r.own n with
  | some v =>
    rw [e] at q
    refine m_bl2 ⟨fun _ => ?_, fun h => (nomatch h)⟩
    walk_at "md"
    refine ⟨b, n, _, _, rfl, rfl, .d mup_same, by rw [lkM_kvF, e]; rfl, ?_⟩
    exact up_sub sb (up q)
  | none =>
    rw [e] at q
    refine m_bl2 ⟨fun h => (nomatch h), fun _ => ?_⟩
    have hA2 := hA.sub sb
    walk_at "md"
    refine m_dget2 ?_
    walk_at "md"
    refine f_rows kf hA2 ?_
    refine ⟨⟨_, _, rfl, .d hA2.d0⟩, ?_⟩
    walk_at "md"
    refine m_lstI ?_
    walk_at "md"
    refine ⟨[], rfl, by simp, ?_⟩
    refine ⟨_, n, _, rfl, rfl, .d hA2.d0, ?_⟩
    walk_at "md"
    refine f_start kf (hr.sub sb) ?_
    walk_at "md"
    exact ⟨_, _, _, rfl, hA2.get_ n, up_sub sb (up q)⟩
end
end Kr
set_option maxHeartbeats 1000000
namespace Kr
open PySem PySem.Spec L2
/-! ### a record's own things are changed -/
section
variable {K : PySem.W.Frag} {S S' : MS} {s : Addr} {A : ShA} {M : ShM} {i j : Nat} {R : RecA} {r r' : RecM}
theorem ShAt.tne (h : ShAt K S s A M) (hR : A.recs[i]? = some R) : R.a ≠ R.d ∧ R.a ≠ R.p ∧ R.a ≠ R.s ∧ R.a ≠ R.h ∧ R.d ≠ R.p ∧ R.d ≠ R.s ∧ R.d ≠ R.h ∧ R.p ≠ R.s ∧ R.p ≠ R.h ∧ R.s ≠ R.h := by
  obtain ⟨t1, t2, t3, t4, t5⟩ := h.tR i R hR
  refine ⟨tag_ne t1 t2 ?_, tag_ne t1 t3 ?_, tag_ne t1 t4 ?_, tag_ne t1 t5 ?_, tag_ne t2 t3 ?_, tag_ne t2 t4 ?_, tag_ne t2 t5 ?_, tag_ne t3 t4 ?_, tag_ne t3 t5 ?_, tag_ne t4 t5 ?_⟩ <;> (intro z; cases z)
theorem ShAt.out (h : ShAt K S s A M) {p : Addr} {k : Nat} (hp : A.T p = some (.rcd i k)) {x : MO} : ∀ b o, (∀ k, A.T b ≠ some (.rcd i k)) → S b = some o → mup S p x b = some o := fun b o g e => by
  rw [mup_ne (by rintro rfl; exact g _ hp)]; exact e
theorem ShAt.setD (h : ShAt K S s A M) (hR : A.recs[i]? = some R) (hr : RecAt K S R r) (ds : List Deed) : ShAt K (mup S R.d (.lst (ds.map fun d => .im (deedD d)))) s A (M.setRec i { r with done := ds }) := by
  obtain ⟨n1, n2, n3, n4, n5, n6, n7, n8, n9, n10⟩ := h.tne hR
  refine h.setRec hR (h.out (h.tR i R hR).2.1) ⟨?_, mup_same, ?_, ?_, ?_⟩
  · obtain ⟨dx, e⟩ := hr.a; exact ⟨dx, by rw [mup_ne n1]; exact e⟩
  · rw [mup_ne (Ne.symm n5)]; exact hr.p
  · rw [mup_ne (Ne.symm n6)]; exact hr.s
  · rw [mup_ne (Ne.symm n7)]; exact hr.h
theorem ShAt.setP (h : ShAt K S s A M) (hR : A.recs[i]? = some R) (hr : RecAt K S R r) (ps : Puts) : ShAt K (mup S R.p (.lst ((pairsD ps).map .im))) s A (M.setRec i { r with puts := ps }) := by
  obtain ⟨n1, n2, n3, n4, n5, n6, n7, n8, n9, n10⟩ := h.tne hR
  refine h.setRec hR (h.out (h.tR i R hR).2.2.1) ⟨?_, ?_, mup_same, ?_, ?_⟩
  · obtain ⟨dx, e⟩ := hr.a; exact ⟨dx, by rw [mup_ne n2]; exact e⟩
  · rw [mup_ne n5]; exact hr.d
  · rw [mup_ne (Ne.symm n8)]; exact hr.s
  · rw [mup_ne (Ne.symm n9)]; exact hr.h
theorem ShAt.setS (h : ShAt K S s A M) (hR : A.recs[i]? = some R) (hr : RecAt K S R r) (u : List (Str × Unit)) : ShAt K (mup S R.s (.dct (kvU u))) s A (M.setRec i { r with seen := u }) := by
  obtain ⟨n1, n2, n3, n4, n5, n6, n7, n8, n9, n10⟩ := h.tne hR
  refine h.setRec hR (h.out (h.tR i R hR).2.2.2.1) ⟨?_, ?_, ?_, mup_same, ?_⟩
  · obtain ⟨dx, e⟩ := hr.a; exact ⟨dx, by rw [mup_ne n3]; exact e⟩
  · rw [mup_ne n6]; exact hr.d
  · rw [mup_ne n8]; exact hr.p
  · rw [mup_ne (Ne.symm n10)]; exact hr.h
theorem ShAt.setH (h : ShAt K S s A M) (hR : A.recs[i]? = some R) (hr : RecAt K S R r) (u : List (Str × Unit)) : ShAt K (mup S R.h (.dct (kvU u))) s A (M.setRec i { r with heads := u }) := by
  obtain ⟨n1, n2, n3, n4, n5, n6, n7, n8, n9, n10⟩ := h.tne hR
  refine h.setRec hR (h.out (h.tR i R hR).2.2.2.2) ⟨?_, ?_, ?_, ?_, mup_same⟩
  · obtain ⟨dx, e⟩ := hr.a; exact ⟨dx, by rw [mup_ne n4]; exact e⟩
  · rw [mup_ne n7]; exact hr.d
  · rw [mup_ne n9]; exact hr.p
  · rw [mup_ne n10]; exact hr.s
theorem ShAt.setA (h : ShAt K S s A M) (hR : A.recs[i]? = some R) (hr : RecAt K S R r) (dx : Addr) (st sp : Nat) (md : Str) : ShAt K (mup S R.a (.ins (He.ga K "Record") dx (recF st sp md R.d R.p R.s R.h))) s A (M.setRec i { r with start := st, stamp := sp, mood := md }) := by
  obtain ⟨n1, n2, n3, n4, n5, n6, n7, n8, n9, n10⟩ := h.tne hR
  refine h.setRec hR (h.out (h.tR i R hR).1) ⟨⟨dx, mup_same⟩, ?_, ?_, ?_, ?_⟩
  · rw [mup_ne (Ne.symm n1)]; exact hr.d
  · rw [mup_ne (Ne.symm n2)]; exact hr.p
  · rw [mup_ne (Ne.symm n3)]; exact hr.s
  · rw [mup_ne (Ne.symm n4)]; exact hr.h
theorem ShAt.newP (h : ShAt K S s A M) (hR : A.recs[i]? = some R) (hr : RecAt K S R r) {p : Addr} (hp : S p = none) (dx : Addr) (ps : Puts) : ShAt K (mup (mup S p (.lst ((pairsD ps).map .im))) R.a (.ins (He.ga K "Record") dx (recF r.start r.stamp r.mood R.d p R.s R.h))) s
    { A with recs := A.recs.set i { R with p := p }, T := fun b => if b = p then some (.rcd i 2) else A.T b } (M.setRec i { r with puts := ps }) := by
  obtain ⟨n1, n2, n3, n4, n5, n6, n7, n8, n9, n10⟩ := h.tne hR
  have ne : ∀ {b : Addr} {o : MO}, S b = some o → b ≠ p := fun e => by rintro rfl; rw [hp] at e; cases e
  have T' : ∀ {b : Addr} {o : MO} {t : Tag}, S b = some o → A.T b = some t → (fun b => if b = p then some (Tag.rcd i 2) else A.T b) b = some t := fun e f => by dsimp only; rw [if_neg (ne e)]; exact f
  have out : ∀ {b : Addr} {o : MO} {t : Tag}, A.T b = some t → t ≠ .rcd i 0 → S b = some o → mup (mup S p (.lst ((pairsD ps).map .im))) R.a (.ins (He.ga K "Record") dx (recF r.start r.stamp r.mood R.d p R.s R.h)) b = some o := fun f g e => by
    rw [mup_ne (tag_ne f (h.tR i R hR).1 g), mup_ne (ne e)]; exact e
  obtain ⟨dxs, es⟩ := h.s0
  have hi : i < A.recs.length := (List.getElem?_eq_some_iff.mp hR).1
  have hset : ∀ (j : Nat) R2, (A.recs.set i { R with p := p })[j]? = some R2 → (i = j ∧ R2 = { R with p := p }) ∨ (i ≠ j ∧ A.recs[j]? = some R2) := fun j R2 e => by
    by_cases ji : i = j
    · subst ji; rw [List.getElem?_set_self hi] at e; exact .inl ⟨rfl, (Option.some.inj e).symm⟩
    · rw [List.getElem?_set_ne ji] at e; exact .inr ⟨ji, e⟩
  refine ⟨T' es h.ts, T' h.r0 h.tr, T' h.w0 h.tw, T' h.d0 h.td, fun j a e => ?_, fun j R2 e => ?_, ⟨dxs, out h.ts (by intro z; cases z) es⟩, ?_, out h.tw (by intro z; cases z) h.w0, out h.td (by intro z; cases z) h.d0, ?_, h.lv, fun j R2 r2 e f => ?_, fun j a q e f => out (h.tv j a e) (by intro z; cases z) (h.vr j a q e f)⟩
  · have hj : j < M.rows.length := by rw [← h.lv]; exact (List.getElem?_eq_some_iff.mp e).1
    exact T' (h.vr j a _ e (List.getElem?_eq_getElem hj)) (h.tv j a e)
  · rcases hset j R2 e with ⟨rfl, rfl⟩ | ⟨ji, e⟩
    · obtain ⟨t1, t2, t3, t4, t5⟩ := h.tR i R hR
      obtain ⟨dx2, e2⟩ := hr.a
      exact ⟨T' e2 t1, T' hr.d t2, by dsimp only; rw [if_pos rfl], T' hr.s t4, T' hr.h t5⟩
    · obtain ⟨t1, t2, t3, t4, t5⟩ := h.tR j R2 e
      have hj : j < M.recs.length := by rw [← h.lr]; exact (List.getElem?_eq_some_iff.mp e).1
      have q := h.rc j R2 _ e (List.getElem?_eq_getElem hj)
      obtain ⟨dx2, e2⟩ := q.a
      exact ⟨T' e2 t1, T' q.d t2, T' q.p t3, T' q.s t4, T' q.h t5⟩
  · rw [show ((A.recs.set i { R with p := p }).map fun R => MV.mu R.a) = A.recs.map fun R => MV.mu R.a from by
      rw [List.map_set]
      refine List.ext_getElem? fun j => ?_
      by_cases ji : i = j
      · subst ji; rw [List.getElem?_set_self (by rw [List.length_map]; exact hi), List.getElem?_map, hR]; rfl
      · rw [List.getElem?_set_ne ji]]
    exact out h.tr (by intro z; cases z) h.r0
  · show (A.recs.set i _).length = (M.recs.set i _).length
    rw [List.length_set, List.length_set]; exact h.lr
  · have f' : (M.recs.set i { r with puts := ps })[j]? = some r2 := f
    rcases hset j R2 e with ⟨rfl, rfl⟩ | ⟨ji, e⟩
    · rw [List.getElem?_set_self (by rw [← h.lr]; exact hi)] at f'
      cases f'
      have pa : p ≠ R.a := by obtain ⟨dx2, e2⟩ := hr.a; exact Ne.symm (ne e2)
      refine ⟨⟨dx, mup_same⟩, ?_, ?_, ?_, ?_⟩
      · show mup _ _ _ R.d = _
        rw [mup_ne (Ne.symm n1), mup_ne (ne hr.d)]; exact hr.d
      · show mup _ _ _ p = _
        rw [mup_ne pa, mup_same]
      · show mup _ _ _ R.s = _
        rw [mup_ne (Ne.symm n3), mup_ne (ne hr.s)]; exact hr.s
      · show mup _ _ _ R.h = _
        rw [mup_ne (Ne.symm n4), mup_ne (ne hr.h)]; exact hr.h
    · rw [List.getElem?_set_ne ji] at f'
      have q := h.rc j R2 r2 e f'
      obtain ⟨t1, t2, t3, t4, t5⟩ := h.tR j R2 e
      have nn : ∀ k, (Tag.rcd j k) ≠ .rcd i 0 := fun k z => by cases z; exact ji rfl
      obtain ⟨dx2, e2⟩ := q.a
      exact ⟨⟨dx2, out t1 (nn _) e2⟩, out t2 (nn _) q.d, out t3 (nn _) q.p, out t4 (nn _) q.s, out t5 (nn _) q.h⟩
theorem setRec_setRec : (M.setRec i r).setRec i r' = M.setRec i r' := by unfold ShM.setRec; rw [List.set_set]
theorem setRec_get (hi : i < M.recs.length) : (M.setRec i r).recs[i]? = some r := List.getElem?_set_self hi
theorem setRec_self (h : M.recs[i]? = some r) : M.setRec i r = M := by
  unfold ShM.setRec
  rw [show M.recs.set i r = M.recs from by
    apply List.ext_getElem?
    intro j
    by_cases z : i = j
    · subst z; rw [List.getElem?_set_self (List.getElem?_eq_some_iff.mp h).1, h]
    · rw [List.getElem?_set_ne z]]
/-- a new thing that nobody asks of, beside -/
theorem ShAt.more {X : MS} {b : Addr} {o : MO} (h : ShAt K S s A M) (dj : Dj X S) (hb : ov X S b = none) : ShAt K (mup S b o) s A M ∧ Dj X (mup S b o) ∧ ov X S b = none :=
  ⟨h.sub (Sub.rfl'.mup (ov_none hb).1), dj.up (ov_none hb).2, hb⟩
theorem Dj.old {X : MS} {b : Addr} {o u : MO} (dj : Dj X S) (hb : S b = some u) : Dj X (mup S b o) := dj.up (dj _ _ hb)
end
/-! ### what the shelf's methods do -/
def ShM.readAt (M : ShM) (i : Nat) (r : RecM) (n : Str) : ShM := M.setRec i { r with seen := if (getA r.own n).isSome = true then r.seen else putA r.seen n (), done := r.done ++ [.read n (M.seenBy r n)] }
def ShM.backAt (M : ShM) (i : Nat) (r : RecM) (k : Nat) : ShM := M.setRec i { r with puts := r.puts.take k, done := r.done ++ [.back k] }
def ShM.dropAt (M : ShM) (i : Nat) (r : RecM) : ShM := M.setRec i { r with mood := "dropped" }
def newRec (n : Nat) : RecM := ⟨n, 0, "open", [], [], [], []⟩
def ShM.begun (M : ShM) : ShM := { M with recs := M.recs ++ [newRec M.row.length] }
def ShM.value (M : ShM) (n : Str) : Val := newestV (M.vers n) M.row.length
def markB (e : D) (n : Nat) : Bool := match e with | .int k => decide (0 ≤ k) && decide (k ≤ n) | _ => false
section
variable (K : PySem.W.Frag)
def mp_Shelf_read : Mp := fun ms S Q X => ∃ (s : Addr) (M : ShM) (d e : D), ms = [.mu s, .im d, .im e] ∧ S s = some (shO K M) ∧ ShOk M ∧ okIn d ∧ okIn e ∧
  match M.going d with
  | .error c => X (exc K c) S
  | .ok i => if nameD e = true then ∀ n r, e = .str n → M.recs[i]? = some r → r.mood = "open" → Q (vM (M.seenBy r n)) (mup S s (shO K (M.readAt i r n))) else X (exc K "NoName") S
def mp_Shelf_made : Mp := fun ms S Q X => ∃ (s : Addr) (M : ShM) (d : D), ms = [.mu s, .im d] ∧ S s = some (shO K M) ∧ ShOk M ∧ okIn d ∧
  match M.going d with
  | .error c => X (exc K c) S
  | .ok i => ∀ r, M.recs[i]? = some r → r.mood = "open" → Q (.im (.int r.puts.length)) S
def mp_Shelf_back : Mp := fun ms S Q X => ∃ (s : Addr) (M : ShM) (d e : D), ms = [.mu s, .im d, .im e] ∧ S s = some (shO K M) ∧ ShOk M ∧ okIn d ∧ okIn e ∧
  match M.going d with
  | .error c => X (exc K c) S
  | .ok i => ∀ r, M.recs[i]? = some r → r.mood = "open" → if markB e r.puts.length = true then ∀ k : Nat, e = .int k → k ≤ r.puts.length → Q (.im .non) (mup S s (shO K (M.backAt i r k))) else X (exc K "NoMark") S
def mp_Shelf_drop : Mp := fun ms S Q X => ∃ (s : Addr) (M : ShM) (d : D), ms = [.mu s, .im d] ∧ S s = some (shO K M) ∧ ShOk M ∧ okIn d ∧
  match M.going d with
  | .error c => X (exc K c) S
  | .ok i => ∀ r, M.recs[i]? = some r → r.mood = "open" → Q (.im .non) (mup S s (shO K (M.dropAt i r)))
def mp_Shelf_order : Mp := fun ms S Q _ => ∃ (s : Addr) (M : ShM), ms = [.mu s] ∧ S s = some (shO K M) ∧ ∀ q, S q = none → Q (.mu q) (mup S q (.lst ((dNats M.row).map .im)))
def mp_Shelf_moment : Mp := fun ms S Q _ => ∃ (s : Addr) (M : ShM), ms = [.mu s] ∧ S s = some (shO K M) ∧ Q (.im (.int M.row.length)) S
def mp_Shelf_ended : Mp := fun ms S Q X => ∃ (s : Addr) (M : ShM) (d : D), ms = [.mu s, .im d] ∧ S s = some (shO K M) ∧ okIn d ∧
  match M.known d with
  | none => X (exc K "NoDealing") S
  | some i => ∀ r, M.recs[i]? = some r → Q (.im (.str r.mood)) S
def mp_Shelf_value : Mp := fun ms S Q X => ∃ (s : Addr) (M : ShM) (e : D), ms = [.mu s, .im e] ∧ S s = some (shO K M) ∧ okIn e ∧
  if nameD e = true then ∀ n, e = .str n → Q (vM (M.value n)) S else X (exc K "NoName") S
def mp_Shelf_versions : Mp := fun ms S Q X => ∃ (s : Addr) (M : ShM) (e : D), ms = [.mu s, .im e] ∧ S s = some (shO K M) ∧ okIn e ∧
  if nameD e = true then ∀ n, e = .str n → ∀ q, S q = none → Q (.mu q) (mup S q (.lst ((versD (M.vers n)).map .im))) else X (exc K "NoName") S
def mp_Shelf_begin : Mp := fun ms S Q _ => ∃ (s : Addr) (M : ShM), ms = [.mu s] ∧ S s = some (shO K M) ∧ M.recs.length ≤ 50000 ∧ Q (.im (.int M.recs.length)) (mup S s (shO K M.begun))
def mp_Shelf_init : Mp := fun ms S Q _ => ∃ (s dx : Addr), ms = [.mu s] ∧ S s = some (.ins (He.ga K "Shelf") dx []) ∧ Q (.im .non) (mup S s (shO K ⟨[], [], []⟩))
end
abbrev sp_Shelf_read (_ : Program) (_ : World) (K : PySem.W.Frag) : Sp := lift K (mp_Shelf_read K)
abbrev sp_Shelf_made (_ : Program) (_ : World) (K : PySem.W.Frag) : Sp := lift K (mp_Shelf_made K)
abbrev sp_Shelf_back (_ : Program) (_ : World) (K : PySem.W.Frag) : Sp := lift K (mp_Shelf_back K)
abbrev sp_Shelf_drop (_ : Program) (_ : World) (K : PySem.W.Frag) : Sp := lift K (mp_Shelf_drop K)
abbrev sp_Shelf_order (_ : Program) (_ : World) (K : PySem.W.Frag) : Sp := lift K (mp_Shelf_order K)
abbrev sp_Shelf_moment (_ : Program) (_ : World) (K : PySem.W.Frag) : Sp := lift K (mp_Shelf_moment K)
abbrev sp_Shelf_ended (_ : Program) (_ : World) (K : PySem.W.Frag) : Sp := lift K (mp_Shelf_ended K)
abbrev sp_Shelf_value (_ : Program) (_ : World) (K : PySem.W.Frag) : Sp := lift K (mp_Shelf_value K)
abbrev sp_Shelf_versions (_ : Program) (_ : World) (K : PySem.W.Frag) : Sp := lift K (mp_Shelf_versions K)
abbrev sp_Shelf_begin (_ : Program) (_ : World) (K : PySem.W.Frag) : Sp := lift K (mp_Shelf_begin K)
abbrev sp_Shelf_init (_ : Program) (_ : World) (K : PySem.W.Frag) : Sp := lift K (mp_Shelf_init K)
section
variable {P : Program} {w : World} {K : PySem.W.Frag} {vs : List V} {H : Hp} {Q : VK} {E : XK}
theorem len_Shelf_read (h : sp_Shelf_read P w K vs H Q E) : vs.length = 3 := lift_len (by rintro ms S mQ mX ⟨_, _, _, _, rfl, _⟩; rfl) h
theorem len_Shelf_made (h : sp_Shelf_made P w K vs H Q E) : vs.length = 2 := lift_len (by rintro ms S mQ mX ⟨_, _, _, rfl, _⟩; rfl) h
theorem len_Shelf_back (h : sp_Shelf_back P w K vs H Q E) : vs.length = 3 := lift_len (by rintro ms S mQ mX ⟨_, _, _, _, rfl, _⟩; rfl) h
theorem len_Shelf_drop (h : sp_Shelf_drop P w K vs H Q E) : vs.length = 2 := lift_len (by rintro ms S mQ mX ⟨_, _, _, rfl, _⟩; rfl) h
theorem len_Shelf_order (h : sp_Shelf_order P w K vs H Q E) : vs.length = 1 := lift_len (by rintro ms S mQ mX ⟨_, _, rfl, _⟩; rfl) h
theorem len_Shelf_moment (h : sp_Shelf_moment P w K vs H Q E) : vs.length = 1 := lift_len (by rintro ms S mQ mX ⟨_, _, rfl, _⟩; rfl) h
theorem len_Shelf_ended (h : sp_Shelf_ended P w K vs H Q E) : vs.length = 2 := lift_len (by rintro ms S mQ mX ⟨_, _, _, rfl, _⟩; rfl) h
theorem len_Shelf_value (h : sp_Shelf_value P w K vs H Q E) : vs.length = 2 := lift_len (by rintro ms S mQ mX ⟨_, _, _, rfl, _⟩; rfl) h
theorem len_Shelf_versions (h : sp_Shelf_versions P w K vs H Q E) : vs.length = 2 := lift_len (by rintro ms S mQ mX ⟨_, _, _, rfl, _⟩; rfl) h
theorem len_Shelf_begin (h : sp_Shelf_begin P w K vs H Q E) : vs.length = 1 := lift_len (by rintro ms S mQ mX ⟨_, _, rfl, _⟩; rfl) h
theorem len_Shelf_init (h : sp_Shelf_init P w K vs H Q E) : vs.length = 1 := lift_len (by rintro ms S mQ mX ⟨_, _, rfl, _⟩; rfl) h
end
def t_Shelf_read_j1 (P : Program) (w : World) (K : PySem.W.Frag) (E : XK) : TS :=
  (tSeq (tAsg (tMeth (He.ga K "Shelf") "seen_by" (sp_Shelf_seen_by P w K) [] E0 (tVar 0) (tCons (tVar 3) (tCons (tVar 2) tNil))) (gName 4)) (tSeq (tDrop (tBM K "list" rAppend (tFld K (tVar 3) "done") (tCons (tTup (tCons (tC (.str "read")) (tCons (tVar 2) (tCons (tVar 4) tNil)))) tNil))) (tRet (tVar 4))))
def t_Shelf_read (P : Program) (w : World) (K : PySem.W.Frag) (E : XK) : TS :=
  (tSeq (tAsg (tMeth (He.ga K "Shelf") "going" (sp_Shelf_going P w K) [] E (tVar 0) (tCons (tVar 1) tNil)) (gName 3)) (tSeq (tIfS (tNot (tB (tCall (sp_is_name P w K) [] E0 (tCons (tVar 2) tNil)))) (tRaise E (.ref (He.ga K "NoName"))) tNext) (tSeq (tIfS (tB (tDNotIn (tVar 2) (tMeth (He.ga K "Record") "written" (sp_Record_written P w K) [] E0 (tVar 3) tNil))) (sDPut (tFld K (tVar 3) "seen") (tVar 2) (tC (.bl true))) tNext) (t_Shelf_read_j1 P w K E))))

def t_Shelf_made (P : Program) (w : World) (K : PySem.W.Frag) (E : XK) : TS :=
  (tRet (tCB (c_len K) (tCons (tFld K (tMeth (He.ga K "Shelf") "going" (sp_Shelf_going P w K) [] E (tVar 0) (tCons (tVar 1) tNil)) "puts") tNil)))

def t_Shelf_back (P : Program) (w : World) (K : PySem.W.Frag) (E : XK) : TS :=
  (tSeq (tAsg (tMeth (He.ga K "Shelf") "going" (sp_Shelf_going P w K) [] E (tVar 0) (tCons (tVar 1) tNil)) (gName 3)) (tSeq (tIfS (tOr (tNot (tB (tCall (sp_is_whole P w K) [] E0 (tCons (tVar 2) tNil)))) (tNot (tTest (tChain r_le r_le (tC (.int 0)) (tVar 2) (tCB (c_len K) (tCons (tFld K (tVar 3) "puts") tNil)))))) (tRaise E (.ref (He.ga K "NoMark"))) tNext) (tSeq (sFld K (tVar 3) (tSl (rSlL K) (tFld K (tVar 3) "puts") tNoPart (tPart (tVar 2))) "puts") (tDrop (tBM K "list" rAppend (tFld K (tVar 3) "done") (tCons (tTup (tCons (tC (.str "back")) (tCons (tVar 2) tNil))) tNil))))))

def t_Shelf_drop (P : Program) (w : World) (K : PySem.W.Frag) (E : XK) : TS :=
  (tSeq (tAsg (tMeth (He.ga K "Shelf") "going" (sp_Shelf_going P w K) [] E (tVar 0) (tCons (tVar 1) tNil)) (gName 2)) (sFld K (tVar 2) (tC (.str "dropped")) "mood"))

def t_Shelf_order (P : Program) (w : World) (K : PySem.W.Frag) : TS :=
  (tRet (tCB (c_list K) (tCons (tFld K (tVar 0) "row") tNil)))

def t_Shelf_moment (P : Program) (w : World) (K : PySem.W.Frag) : TS :=
  (tRet (tCB (c_len K) (tCons (tFld K (tVar 0) "row") tNil)))

def t_Shelf_value (P : Program) (w : World) (K : PySem.W.Frag) (E : XK) : TS :=
  (tSeq (tIfS (tNot (tB (tCall (sp_is_name P w K) [] E0 (tCons (tVar 1) tNil)))) (tRaise E (.ref (He.ga K "NoName"))) tNext) (tRet (tCall (sp_newest P w K) [] E0 (tCons (tDGet2 (tFld K (tVar 0) "rows") (tVar 1) (tLst tNil)) (tCons (tCB (c_len K) (tCons (tFld K (tVar 0) "row") tNil)) tNil)))))

def t_Shelf_versions (P : Program) (w : World) (K : PySem.W.Frag) (E : XK) : TS :=
  (tSeq (tIfS (tNot (tB (tCall (sp_is_name P w K) [] E0 (tCons (tVar 1) tNil)))) (tRaise E (.ref (He.ga K "NoName"))) tNext) (tRet (tCB (c_list K) (tCons (tDGet2 (tFld K (tVar 0) "rows") (tVar 1) (tLst tNil)) tNil))))

def t_Shelf_begin (P : Program) (w : World) (K : PySem.W.Frag) : TS :=
  (tSeq (tDrop (tBM K "list" rAppend (tFld K (tVar 0) "records") (tCons (tMake (He.ga K "Record") (sp_Record_init P w K) [] E0 (tCons (tCB (c_len K) (tCons (tFld K (tVar 0) "row") tNil)) tNil)) tNil))) (tRet (tOp r_sub (tCB (c_len K) (tCons (tFld K (tVar 0) "records") tNil)) (tC (.int 1)))))

def t_Shelf_init (P : Program) (w : World) (K : PySem.W.Frag) : TS :=
  (tSeq (sFld K (tVar 0) (tLst tNil) "records") (tSeq (sFld K (tVar 0) (tLst tNil) "row") (sFld K (tVar 0) tDNewK "rows")))

section
variable {P : Program} {w : World} {K : PySem.W.Frag} {vs : List V} {H : Hp} {Q : VK} {E : XK}
theorem nameD_str {e : D} (h : nameD e = true) : ∃ n, e = .str n ∧ NameOk n := by
  cases e with
  | str n =>
    unfold nameD at h
    dsimp only at h
    rw [Bool.and_eq_true, Bool.and_eq_true] at h
    obtain ⟨⟨h1, h2⟩, h3⟩ := h
    refine ⟨n, rfl, h2, ?_, of_decide_eq_true h1⟩
    by_cases z : n.length = 0
    · have h3' : ¬ n = "" := by simpa using h3
      exact absurd (str_ext (by
        have : n.cps.toList.length = 0 := by rw [← z]; unfold Str.length; simp
        rw [List.eq_nil_of_length_eq_zero this]; decide +kernel)) h3'
    · omega
  | _ => cases h
theorem going_ok {M : ShM} {d : D} {i : Nat} (h : M.going d = .ok i) : i < M.recs.length ∧ d = .int i := by
  unfold ShM.going at h
  split at h
  · cases h
  · next k hk =>
    split at h
    · cases h; exact known_lt hk
    · cases h
theorem ov_out {X S1 : MS} {p : Addr} {o : MO} (h : S1 p = none) : mup (ov X S1) p o = ov (mup X p o) S1 := by
  funext b
  simp only [mup, ov]
  by_cases z : b = p
  · subst z; simp [h]
  · simp [z]
theorem mer_out {S : MS} {p s : Addr} {o : MO} (h : p ≠ s) : mup (mer S s) p o = mer (mup S p o) s := by
  funext b
  simp only [mup, mer]
  by_cases z : b = p
  · subst z; simp [h]
  · simp [z]
theorem sh_fresh {S S1 : MS} {s p : Addr} {A : ShA} {M : ShM} {o : MO} {mQ : MV → MS → Prop} {m : MV} (hs : S s = some (shO K M)) (hA : ShAt K S1 s A M) (dj : Dj (mer S s) S1) (hp : ov (mer S s) S1 p = none) (q : S p = none → mQ m (mup S p o)) : Up K mQ m (mup (ov (mer S s) S1) p o) := by
  obtain ⟨h1, h2⟩ := ov_none hp
  have ne : p ≠ s := by
    rintro rfl
    obtain ⟨dx, e⟩ := hA.s0
    rw [e] at h1; cases h1
  rw [mer_ne ne] at h2
  rw [ov_out h1, mer_out ne]
  refine sh_up hA (fun a u e => ?_) ?_
  · have ha : a ≠ p := by rintro rfl; rw [h1] at e; cases e
    by_cases z : a = s
    · simp [mer, z]
    · rw [mer_ne z, mup_ne ha]
      have := dj a u e
      rw [mer_ne z] at this; exact this
  · rw [mup_self (by rw [mup_ne (Ne.symm ne)]; exact hs)]
    exact q h2
theorem rd_Shelf_order (kf : KF K) (h : sp_Shelf_order P w K vs H Q E) : t_Shelf_order P w K { nx := fun _ H' => Q .non H', rt := Q } (start ["self"] vs) H := by
  refine rd_N h fun G0 ms S mQ mX h => ?_
  obtain ⟨s, M, rfl, hs, q⟩ := h
  refine sh_open hs fun S1 A hA dj => ?_
  unfold t_Shelf_order bodyN
  walk_at "s0"
  walk_at "md"
  refine f_row kf (hA.sub sub_ov) ?_
  walk_at "md"
  exact m_listM (ov_in hA.w0) fun p hp => sh_fresh hs hA dj hp (q p)
theorem rd_Shelf_moment (kf : KF K) (h : sp_Shelf_moment P w K vs H Q E) : t_Shelf_moment P w K { nx := fun _ H' => Q .non H', rt := Q } (start ["self"] vs) H := by
  refine rd_N h fun G0 ms S mQ mX h => ?_
  obtain ⟨s, M, rfl, hs, q⟩ := h
  refine sh_open hs fun S1 A hA dj => ?_
  unfold t_Shelf_moment bodyN
  walk_at "s0"
  walk_at "md"
  refine f_row kf (hA.sub sub_ov) ?_
  walk_at "md"
  refine m_lenM (ov_in hA.w0) ?_
  rw [natsM_len]
  exact sh_same hs hA dj q
theorem rd_Shelf_made (kf : KF K) (h : sp_Shelf_made P w K vs H Q E) : t_Shelf_made P w K E { nx := fun _ H' => Q .non H', rt := Q } (start ["self", "number"] vs) H := by
  refine rd_X h fun G0 Ex ms S mQ mX hX h => ?_
  obtain ⟨s, M, d, rfl, hs, ok, hd, q⟩ := h
  refine sh_open hs fun S1 A hA dj => ?_
  unfold t_Shelf_made bodyN
  walk_at "s0"
  walk_at "md"
  refine m_meth hX ?_
  walk_at "md"
  refine ⟨s, rfl, i_sh (hA.sub sub_ov) (by decide +kernel), ?_⟩
  walk_at "md"
  refine ⟨s, A, M, d, rfl, hA.sub sub_ov, hd, ?_⟩
  cases hg : M.going d with
  | error c => rw [hg] at q; exact sh_sameX hs hA dj q
  | ok i =>
    rw [hg] at q
    intro R r hR hr hAt ho
    refine f_puts kf hAt ?_
    walk_at "md"
    refine m_lenM hAt.p ?_
    rw [show ((pairsD r.puts).map MV.im).length = r.puts.length by unfold pairsD; simp]
    exact sh_same hs hA dj (q r hr ho)
theorem rd_Shelf_drop (kf : KF K) (h : sp_Shelf_drop P w K vs H Q E) : t_Shelf_drop P w K E { nx := fun _ H' => Q .non H', rt := Q } (start ["self", "number", "record"] vs) H := by
  refine rd_X h fun G0 Ex ms S mQ mX hX h => ?_
  obtain ⟨s, M, d, rfl, hs, ok, hd, q⟩ := h
  refine sh_open hs fun S1 A hA dj => ?_
  unfold t_Shelf_drop bodyN
  walk_at "s0"
  walk_at "md"
  refine m_meth hX ?_
  walk_at "md"
  refine ⟨s, rfl, i_sh (hA.sub sub_ov) (by decide +kernel), ?_⟩
  walk_at "md"
  refine ⟨s, A, M, d, rfl, hA.sub sub_ov, hd, ?_⟩
  cases hg : M.going d with
  | error c => rw [hg] at q; exact sh_sameX hs hA dj q
  | ok i =>
    rw [hg] at q
    intro R r hR hr hAt ho
    have hr1 := hA.rc i R r hR hr
    obtain ⟨dx, hra⟩ := hr1.a
    walk_at "md"
    refine ⟨R.a, _, dx, _, rfl, ov_in hra, kf.cR, kf.r3, by simp [recF], ?_⟩
    rw [show putFM "mood" (.im (.str "dropped")) (recF r.start r.stamp r.mood R.d R.p R.s R.h) = recF r.start r.stamp "dropped" R.d R.p R.s R.h from rfl, ov_up]
    exact sh_up (hA.setA hR hr1 dx r.start r.stamp "dropped") (dj.old hra) (q r hr ho)
theorem rd_Shelf_value (kf : KF K) (h : sp_Shelf_value P w K vs H Q E) : t_Shelf_value P w K E { nx := fun _ H' => Q .non H', rt := Q } (start ["self", "name"] vs) H := by
  refine rd_X h fun G0 Ex ms S mQ mX hX h => ?_
  obtain ⟨s, M, e, rfl, hs, he, q⟩ := h
  refine sh_open hs fun S1 A hA dj => ?_
  have hA' : ShAt K (ov (mer S s) S1) s A M := hA.sub sub_ov
  unfold t_Shelf_value bodyN
  walk_at "s0"
  walk_at "md"
  refine ⟨e, rfl, he, ?_⟩
  cases hn : nameD e with
  | false =>
    rw [hn] at q
    walk_at "md"
    exact m_raise hX (sh_sameX hs hA dj q)
  | true =>
    obtain ⟨n, rfl, hok⟩ := nameD_str hn
    rw [hn] at q
    have q := q n rfl
    walk_at "md"
    refine m_dget2 ?_
    walk_at "md"
    refine f_rows kf hA' ?_
    refine ⟨⟨_, _, rfl, .d hA'.d0⟩, ?_⟩
    walk_at "md"
    refine m_lstI ?_
    walk_at "md"
    refine ⟨[], rfl, by simp, ?_⟩
    refine ⟨_, n, _, rfl, rfl, .d hA'.d0, ?_⟩
    walk_at "md"
    refine f_row kf hA' ?_
    walk_at "md"
    refine m_lenM hA'.w0 ?_
    rw [natsM_len]
    walk_at "md"
    exact ⟨_, _, _, rfl, hA'.get_ n, sh_same hs hA dj q⟩
theorem rd_Shelf_versions (kf : KF K) (h : sp_Shelf_versions P w K vs H Q E) : t_Shelf_versions P w K E { nx := fun _ H' => Q .non H', rt := Q } (start ["self", "name"] vs) H := by
  refine rd_X h fun G0 Ex ms S mQ mX hX h => ?_
  obtain ⟨s, M, e, rfl, hs, he, q⟩ := h
  refine sh_open hs fun S1 A hA dj => ?_
  have hA' : ShAt K (ov (mer S s) S1) s A M := hA.sub sub_ov
  unfold t_Shelf_versions bodyN
  walk_at "s0"
  walk_at "md"
  refine ⟨e, rfl, he, ?_⟩
  cases hn : nameD e with
  | false =>
    rw [hn] at q
    walk_at "md"
    exact m_raise hX (sh_sameX hs hA dj q)
  | true =>
    obtain ⟨n, rfl, hok⟩ := nameD_str hn
    rw [hn] at q
    have q := q n rfl
    walk_at "md"
    refine m_dget2 ?_
    walk_at "md"
    refine f_rows kf hA' ?_
    refine ⟨⟨_, _, rfl, .d hA'.d0⟩, ?_⟩
    walk_at "md"
    refine m_lstI ?_
    walk_at "md"
    refine ⟨[], rfl, by simp, ?_⟩
    refine ⟨_, n, _, rfl, rfl, .d hA'.d0, ?_⟩
    walk_at "md"
    exact m_listX (hA'.get_ n) fun p hp => sh_fresh hs hA dj hp (q p)
theorem rd_Shelf_back (kf : KF K) (h : sp_Shelf_back P w K vs H Q E) : t_Shelf_back P w K E { nx := fun _ H' => Q .non H', rt := Q } (start ["self", "number", "many", "record"] vs) H := by
  refine rd_X h fun G0 Ex ms S mQ mX hX h => ?_
  obtain ⟨s, M, d, e, rfl, hs, ok, hd, he, q⟩ := h
  refine sh_open hs fun S1 A hA dj => ?_
  unfold t_Shelf_back bodyN
  walk_at "s0"
  walk_at "md"
  refine m_meth hX ?_
  walk_at "md"
  refine ⟨s, rfl, i_sh (hA.sub sub_ov) (by decide +kernel), ?_⟩
  walk_at "md"
  refine ⟨s, A, M, d, rfl, hA.sub sub_ov, hd, ?_⟩
  cases hg : M.going d with
  | error c => rw [hg] at q; exact sh_sameX hs hA dj q
  | ok i =>
    rw [hg] at q
    intro R r hR hr hAt ho
    have q := q r hr ho
    have hr1 := hA.rc i R r hR hr
    have lp : ((pairsD r.puts).map MV.im).length = r.puts.length := by unfold pairsD; simp
    walk_at "md"
    refine ⟨e, rfl, he, ?_⟩
    by_cases hk : ∃ k, e = .int k
    · obtain ⟨k, rfl⟩ := hk
      unfold wholeD
      walk_at "md"
      refine ⟨fun h1 => ?_, fun h1 => ?_⟩
      · walk_at "md"
        refine f_puts kf hAt ?_
        walk_at "md"
        refine m_lenM hAt.p ?_
        rw [lp]
        walk_at "md"
        refine ⟨fun h2 => ?_, fun h2 => ?_⟩
        · have h2 : decide (k ≤ (r.puts.length : Int)) = false := by simpa using h2
          rw [if_neg (by unfold markB; dsimp only; rw [h1, h2]; decide)] at q
          exact m_raise hX (sh_sameX hs hA dj q)
        · have h2 : decide (k ≤ (r.puts.length : Int)) = true := by simpa using h2
          rw [if_pos (by unfold markB; dsimp only; rw [h1, h2]; decide)] at q
          have h1 := of_decide_eq_true h1
          have h2 := of_decide_eq_true h2
          obtain ⟨k, rfl⟩ := Int.eq_ofNat_of_zero_le h1
          have q := q k rfl (by omega)
          obtain ⟨dx, hra⟩ := hr1.a
          have hdo := (ok.rc r (List.mem_of_getElem? hr)).done
          walk_at "md"
          refine f_puts kf hAt ?_
          walk_at "md"
          refine m_slM hAt.p fun p hp => ?_
          rw [cutD_pre, show ((pairsD r.puts).map MV.im).take k = (pairsD (r.puts.take k)).map MV.im by unfold pairsD; rw [List.map_take, List.map_take], ov_up]
          walk_at "md"
          have hp1 := (ov_none hp).1
          have nap : R.a ≠ p := by rintro rfl; rw [hra] at hp1; cases hp1
          refine ⟨R.a, _, dx, _, rfl, ov_in (mup_look hra nap), kf.cR, kf.r5, by simp [recF], ?_⟩
          rw [show putFM "puts" (.mu p) (recF r.start r.stamp r.mood R.d R.p R.s R.h) = recF r.start r.stamp r.mood R.d p R.s R.h from rfl, ov_up]
          have hB := hA.newP hR hr1 hp1 dx (r.puts.take k)
          have djB : Dj (mer S s) (mup (mup S1 p (.lst ((pairsD (r.puts.take k)).map .im))) R.a (.ins (He.ga K "Record") dx (recF r.start r.stamp r.mood R.d p R.s R.h))) := (dj.up (ov_none hp).2).up (dj _ _ hra)
          have hRB : (A.recs.set i { R with p := p })[i]? = some { R with p := p } := List.getElem?_set_self (List.getElem?_eq_some_iff.mp hR).1
          have hrB : (M.setRec i { r with puts := r.puts.take k }).recs[i]? = some { r with puts := r.puts.take k } := setRec_get (List.getElem?_eq_some_iff.mp hr).1
          have atB := hB.rc i _ _ hRB hrB
          walk_at "md"
          refine m_bm ?_
          walk_at "md"
          refine f_done (R := { R with p := p }) kf (atB.sub sub_ov) ?_
          refine ⟨tyL_M (ov_in atB.d), ?_⟩
          walk_at "md"
          refine m_tupI ?_
          walk_at "md"
          refine ⟨[.str "back", .int k], rfl, by simp, ?_⟩
          walk_at "md"
          refine m_app (ov_in atB.d) (by rw [List.length_map]; dsimp only; omega) ?_
          rw [ov_up, show ((r.done.map fun d => MV.im (deedD d)) ++ [MV.im (.tup [.str "back", .int k])]) = (r.done ++ [Deed.back k]).map fun d => MV.im (deedD d) by rw [List.map_append]; rfl]
          refine sh_up (hB.setD hRB atB (r.done ++ [.back k])) (djB.old atB.d) ?_
          rw [setRec_setRec]
          exact q
      · rw [if_neg (by unfold markB; dsimp only; rw [h1]; simp)] at q
        walk_at "md"
        exact m_raise hX (sh_sameX hs hA dj q)
    · have hw : wholeD e = false := by cases e <;> first | rfl | exact absurd ⟨_, rfl⟩ hk
      rw [hw]
      walk_at "md"
      rw [if_neg (by rw [show markB e r.puts.length = false by cases e <;> first | rfl | exact absurd ⟨_, rfl⟩ hk]; decide)] at q
      exact m_raise hX (sh_sameX hs hA dj q)
theorem rd_Shelf_read_j1 (kf : KF K) {G0 : Hp} {Ex : XK} {S S2 : MS} {s : Addr} {A : ShA} {M1 : ShM} {i : Nat} {R : RecA} {r1 : RecM} {n : Str} {d : D} {mQ : MV → MS → Prop}
    (h : ShAt K S2 s A M1) (dj : Dj (mer S s) S2) (hR : A.recs[i]? = some R) (hr : M1.recs[i]? = some r1) (h1 : r1.puts.length ≤ 60000) (h2 : r1.done.length ≤ 60000)
    (q : mQ (vM (M1.seenBy r1 n)) (mup S s (shO K (M1.setRec i { r1 with done := r1.done ++ [.read n (M1.seenBy r1 n)] })))) : EvS K G0 (t_Shelf_read_j1 P w K Ex) [some (.mu s), some (.im d), some (.im (.str n)), some (.mu R.a), none] (ov (mer S s) S2) ⟨fun _ S' => Up K mQ (.im .non) S', Up K mQ, fun _ _ => False, fun _ _ => False⟩ := by
  have hat := h.rc i R r1 hR hr
  unfold t_Shelf_read_j1
  walk_at "md"
  refine m_meth0 ?_
  walk_at "md"
  refine ⟨s, rfl, i_sh (h.sub sub_ov) (by decide +kernel), ?_⟩
  walk_at "md"
  refine ⟨s, A, M1, i, R, r1, n, rfl, h.sub sub_ov, hR, hat.sub sub_ov, h1, ?_⟩
  walk_at "md"
  refine m_bm ?_
  walk_at "md"
  refine f_done kf (hat.sub sub_ov) ?_
  refine ⟨tyL_M (ov_in hat.d), ?_⟩
  walk_at "md"
  refine m_tupI ?_
  walk_at "md"
  refine ⟨[.str "read", .str n, valD (M1.seenBy r1 n)], rfl, by simp, ?_⟩
  walk_at "md"
  refine m_app (ov_in hat.d) (by rw [List.length_map]; omega) ?_
  rw [ov_up, show ((r1.done.map fun d => MV.im (deedD d)) ++ [MV.im (.tup [.str "read", .str n, valD (M1.seenBy r1 n)])]) = (r1.done ++ [Deed.read n (M1.seenBy r1 n)]).map fun d => MV.im (deedD d) by rw [List.map_append]; rfl]
  walk_at "md"
  exact sh_up (h.setD hR hat _) (dj.old hat.d) q
theorem rd_Shelf_read (kf : KF K) (h : sp_Shelf_read P w K vs H Q E) : t_Shelf_read P w K E { nx := fun _ H' => Q .non H', rt := Q } (start ["self", "number", "name", "record", "found"] vs) H := by
  refine rd_X h fun G0 Ex ms S mQ mX hX h => ?_
  obtain ⟨s, M, d, e, rfl, hs, ok, hd, he, q⟩ := h
  refine sh_open hs fun S1 A hA dj => ?_
  unfold t_Shelf_read bodyN
  walk_at "s0"
  walk_at "md"
  refine m_meth hX ?_
  walk_at "md"
  refine ⟨s, rfl, i_sh (hA.sub sub_ov) (by decide +kernel), ?_⟩
  walk_at "md"
  refine ⟨s, A, M, d, rfl, hA.sub sub_ov, hd, ?_⟩
  cases hg : M.going d with
  | error c => rw [hg] at q; exact sh_sameX hs hA dj q
  | ok i =>
    rw [hg] at q
    intro R r hR hr hAt ho
    have hr1 := hA.rc i R r hR hr
    have hi := (List.getElem?_eq_some_iff.mp hr).1
    have rok := ok.rc r (List.mem_of_getElem? hr)
    have hpu := rok.puts
    have hdo := rok.done
    walk_at "md"
    refine ⟨e, rfl, he, ?_⟩
    cases hn : nameD e with
    | false =>
      rw [hn] at q
      walk_at "md"
      exact m_raise hX (sh_sameX hs hA dj q)
    | true =>
      obtain ⟨n, rfl, hok⟩ := nameD_str hn
      rw [hn] at q
      have q := q n r rfl hr ho
      walk_at "md"
      refine m_meth0 ?_
      walk_at "md"
      refine ⟨R.a, rfl, i_rec hAt (by decide +kernel), ?_⟩
      walk_at "md"
      refine p_written hAt (by omega) fun b hb => ?_
      obtain ⟨hA2, dj2, _⟩ := hA.more (o := .dct (kvV r.own)) dj hb
      have hr2 := hr1.sub (Sub.rfl'.mup (o := .dct (kvV r.own)) (ov_none hb).1)
      rw [ov_up]
      refine ⟨b, n, _, rfl, rfl, .d (ov_in mup_same), ?_⟩
      rw [lkM_kvF, show ((getA r.own n).map vM).isSome = (getA r.own n).isSome by cases getA r.own n <;> rfl]
      refine m_bl2 ⟨fun h => ?_, fun h => ?_⟩
      · have hno : ¬ (getA r.own n).isSome = true := by simpa using h
        walk_at "md"
        refine f_seen kf (hr2.sub sub_ov) ?_
        walk_at "md"
        refine ⟨_, n, _, rfl, rfl, ov_in hr2.s, by rw [kvF_len]; have := rok.seen; omega, ?_⟩
        rw [putM_kvF (f := uM) (v := ()), ov_up]
        refine rd_Shelf_read_j1 kf (hA2.setS hR hr2 _) (dj2.old hr2.s) hR (setRec_get hi) (by dsimp only; omega) (by dsimp only; omega) ?_
        rw [setRec_setRec]
        have q2 := q
        unfold ShM.readAt at q2
        rw [if_neg hno] at q2
        exact q2
      · have hno : (getA r.own n).isSome = true := by simpa using h
        walk_at "md"
        refine rd_Shelf_read_j1 kf hA2 dj2 hR hr (by omega) (by omega) ?_
        have q2 := q
        unfold ShM.readAt at q2
        rw [if_pos hno] at q2
        exact q2
theorem rd_Shelf_init (kf : KF K) (h : sp_Shelf_init P w K vs H Q E) : t_Shelf_init P w K { nx := fun _ H' => Q .non H', rt := Q } (start ["self"] vs) H := by
  refine rd_N h fun G0 ms S mQ mX h => ?_
  obtain ⟨s, dx, rfl, hs, q⟩ := h
  unfold t_Shelf_init bodyN
  walk_at "s0"
  walk_at "md"
  refine m_lstM ?_
  walk_at "md"
  refine ⟨by simp, fun a ha => ?_⟩
  walk_at "md"
  refine ⟨s, _, dx, _, rfl, by walk_at "st", kf.cS, kf.s1, by simp, ?_⟩
  rw [show putFM "records" (.mu a) [] = (shF ⟨a, 0, 0, [], [], fun _ => none⟩).take 1 from rfl]
  walk_at "md"
  refine m_lstM ?_
  walk_at "md"
  refine ⟨by simp, fun b hb => ?_⟩
  walk_at "md"
  refine ⟨s, _, dx, _, rfl, by walk_at "st", kf.cS, kf.s2, by simp [shF], ?_⟩
  rw [show putFM "row" (.mu b) ((shF ⟨a, 0, 0, [], [], fun _ => none⟩).take 1) = (shF ⟨a, b, 0, [], [], fun _ => none⟩).take 2 from rfl]
  walk_at "md"
  refine m_dNew fun c hc => ?_
  walk_at "md"
  refine ⟨s, _, dx, _, rfl, by walk_at "st", kf.cS, kf.s3, by simp [shF], ?_⟩
  rw [show putFM "rows" (.mu c) ((shF ⟨a, b, 0, [], [], fun _ => none⟩).take 2) = shF ⟨a, b, c, [], [], fun _ => none⟩ from rfl]
  obtain ⟨c1, hc⟩ := mup_none hc
  obtain ⟨c2, hc⟩ := mup_none hc
  obtain ⟨_, hc⟩ := mup_none hc
  obtain ⟨c3, hc⟩ := mup_none hc
  obtain ⟨b1, hb⟩ := mup_none hb
  obtain ⟨b2, hb⟩ := mup_none hb
  have a1 : a ≠ s := by rintro rfl; rw [hs] at ha; cases ha
  let A : ShA := ⟨a, b, c, [], [], fun x => if x = s then some .s else if x = a then some .ar else if x = b then some .aw else if x = c then some .ad else none⟩
  let S2 : MS := mup (mup (mup (mup (fun _ => none) a (.lst [])) b (.lst [])) c (.dct [])) s (.ins (He.ga K "Shelf") dx (shF A))
  have hA : ShAt K S2 s A ⟨[], [], []⟩ := by
    refine ⟨if_pos rfl, ?_, ?_, ?_, fun j x e => (by cases e), fun j x e => (by cases e), ⟨dx, mup_same⟩, ?_, ?_, ?_, rfl, rfl, fun i R r e => (by cases e), fun j x p e => (by cases e)⟩
    · show (if a = s then _ else if a = a then _ else _) = _
      rw [if_neg a1, if_pos rfl]
    · show (if b = s then _ else if b = a then _ else if b = b then _ else _) = _
      rw [if_neg b1, if_neg b2, if_pos rfl]
    · show (if c = s then _ else if c = a then _ else if c = b then _ else if c = c then _ else _) = _
      rw [if_neg c1, if_neg c3, if_neg c2, if_pos rfl]
    · show mup _ _ _ a = _
      rw [mup_ne a1, mup_ne (Ne.symm c3), mup_ne (Ne.symm b2), mup_same]; rfl
    · show mup _ _ _ b = _
      rw [mup_ne b1, mup_ne (Ne.symm c2), mup_same]; rfl
    · show mup _ _ _ c = _
      rw [mup_ne c1, mup_same]; rfl
  have dj : Dj (mer S s) S2 := by
    intro x o e
    by_cases z : x = s
    · simp [mer, z]
    · rw [mer_ne z]
      by_cases z1 : x = c
      · rw [z1]; exact hc
      · by_cases z2 : x = b
        · rw [z2]; exact hb
        · by_cases z3 : x = a
          · rw [z3]; exact ha
          · have : S2 x = none := by show mup _ _ _ x = _; rw [mup_ne z, mup_ne z1, mup_ne z2, mup_ne z3]
            rw [this] at e; cases e
  have hfin := sh_up (Q := mQ) (m := .im .non) hA dj q
  refine Eq.mp ?_ hfin
  congr 1
  funext x
  by_cases z : x = s
  · subst z
    have : S2 x = some (.ins (He.ga K "Shelf") dx (shF A)) := mup_same
    rw [ov_in this, mup_same]; rfl
  · by_cases z1 : x = c
    · subst z1
      rw [ov_in (o := .dct []) (by show mup _ _ _ x = _; rw [mup_ne z, mup_same]), mup_ne z, mup_same]
    · by_cases z2 : x = b
      · subst z2
        rw [ov_in (o := .lst []) (by show mup _ _ _ x = _; rw [mup_ne z, mup_ne z1, mup_same]), mup_ne z, mup_ne z1, mup_ne z, mup_same]
      · by_cases z3 : x = a
        · subst z3
          rw [ov_in (o := .lst []) (by show mup _ _ _ x = _; rw [mup_ne z, mup_ne z1, mup_ne z2, mup_same]), mup_ne z, mup_ne z1, mup_ne z, mup_ne z2, mup_ne z, mup_same]
        · have : S2 x = none := by show mup _ _ _ x = _; rw [mup_ne z, mup_ne z1, mup_ne z2, mup_ne z3]
          have e : ov (mer S s) S2 x = mer S s x := by unfold ov; rw [this]
          rw [e, mer_ne z, mup_ne z, mup_ne z1, mup_ne z, mup_ne z2, mup_ne z, mup_ne z3]
/-- one more record, of new things -/
theorem ShAt.addRec {S : MS} {s : Addr} {A : ShA} {M : ShM} (h : ShAt K S s A M) {R : RecA} {r : RecM} {S' : MS} (hn : [R.a, R.d, R.p, R.s, R.h].Nodup) (f : ∀ x ∈ [R.a, R.d, R.p, R.s, R.h], S x = none)
    (g : ∀ b o, b ≠ A.ar → S b = some o → S' b = some o) (ga : S' A.ar = some (.lst ((A.recs.map fun R => .mu R.a) ++ [.mu R.a]))) (hr : RecAt K S' R r) :
    ShAt K S' s { A with recs := A.recs ++ [R], T := fun b => if b = R.a then some (.rcd A.recs.length 0) else if b = R.d then some (.rcd A.recs.length 1) else if b = R.p then some (.rcd A.recs.length 2) else if b = R.s then some (.rcd A.recs.length 3) else if b = R.h then some (.rcd A.recs.length 4) else A.T b } { M with recs := M.recs ++ [r] } := by
  have ne : ∀ {b : Addr} {o : MO}, S b = some o → b ≠ R.a ∧ b ≠ R.d ∧ b ≠ R.p ∧ b ≠ R.s ∧ b ≠ R.h := fun e => by
    refine ⟨?_, ?_, ?_, ?_, ?_⟩ <;> (rintro rfl; rw [f _ (by simp)] at e; cases e)
  have T' : ∀ {b : Addr} {o : MO} {t : Tag}, S b = some o → A.T b = some t → (fun b => if b = R.a then some (Tag.rcd A.recs.length 0) else if b = R.d then some (.rcd A.recs.length 1) else if b = R.p then some (.rcd A.recs.length 2) else if b = R.s then some (.rcd A.recs.length 3) else if b = R.h then some (.rcd A.recs.length 4) else A.T b) b = some t := fun e ft => by
    obtain ⟨n1, n2, n3, n4, n5⟩ := ne e
    dsimp only
    rw [if_neg n1, if_neg n2, if_neg n3, if_neg n4, if_neg n5]; exact ft
  have out : ∀ {b : Addr} {o : MO} {t : Tag}, A.T b = some t → t ≠ .ar → S b = some o → S' b = some o := fun ft gt e => g _ _ (tag_ne ft h.tr gt) e
  obtain ⟨dxs, es⟩ := h.s0
  have hget : ∀ (j : Nat) R2, (A.recs ++ [R])[j]? = some R2 → A.recs[j]? = some R2 ∨ (j = A.recs.length ∧ R2 = R) := fun j R2 e => by
    by_cases hj : j < A.recs.length
    · rw [List.getElem?_append_left hj] at e; exact .inl e
    · rw [List.getElem?_append_right (by omega)] at e
      have : j - A.recs.length = 0 := by
        by_cases z : j - A.recs.length = 0
        · exact z
        · rw [List.getElem?_eq_none (by simp; omega)] at e; cases e
      rw [this] at e
      simp at e
      exact .inr ⟨by omega, e.symm⟩
  simp only [List.nodup_cons, List.mem_cons, List.not_mem_nil, or_false, not_or, not_false_eq_true, List.nodup_nil, and_true] at hn
  obtain ⟨⟨m1, m2, m3, m4⟩, ⟨m5, m6, m7⟩, ⟨m8, m9⟩, m10⟩ := hn
  refine ⟨T' es h.ts, T' h.r0 h.tr, T' h.w0 h.tw, T' h.d0 h.td, fun j a e => ?_, fun j R2 e => ?_, ⟨dxs, out h.ts (by intro z; cases z) es⟩, ?_, out h.tw (by intro z; cases z) h.w0, out h.td (by intro z; cases z) h.d0, ?_, h.lv, fun j R2 r2 e e2 => ?_, fun j a q e e2 => out (h.tv j a e) (by intro z; cases z) (h.vr j a q e e2)⟩
  · have hj : j < M.rows.length := by rw [← h.lv]; exact (List.getElem?_eq_some_iff.mp e).1
    exact T' (h.vr j a _ e (List.getElem?_eq_getElem hj)) (h.tv j a e)
  · rcases hget j R2 e with e | ⟨rfl, rfl⟩
    · obtain ⟨t1, t2, t3, t4, t5⟩ := h.tR j R2 e
      have hj : j < M.recs.length := by rw [← h.lr]; exact (List.getElem?_eq_some_iff.mp e).1
      have q := h.rc j R2 _ e (List.getElem?_eq_getElem hj)
      obtain ⟨dx2, e2⟩ := q.a
      exact ⟨T' e2 t1, T' q.d t2, T' q.p t3, T' q.s t4, T' q.h t5⟩
    · dsimp only
      refine ⟨if_pos rfl, ?_, ?_, ?_, ?_⟩
      · rw [if_neg (Ne.symm m1), if_pos rfl]
      · rw [if_neg (Ne.symm m2), if_neg (Ne.symm m5), if_pos rfl]
      · rw [if_neg (Ne.symm m3), if_neg (Ne.symm m6), if_neg (Ne.symm m8), if_pos rfl]
      · rw [if_neg (Ne.symm m4), if_neg (Ne.symm m7), if_neg (Ne.symm m9), if_neg (Ne.symm m10), if_pos rfl]
  · show S' A.ar = _
    rw [ga, List.map_append]; rfl
  · show (A.recs ++ [R]).length = (M.recs ++ [r]).length
    rw [List.length_append, List.length_append, h.lr]; rfl
  · rcases hget j R2 e with e | ⟨rfl, rfl⟩
    · have hj : j < M.recs.length := by rw [← h.lr]; exact (List.getElem?_eq_some_iff.mp e).1
      have e2' : (M.recs ++ [r])[j]? = some r2 := e2
      rw [List.getElem?_append_left hj] at e2'
      have q := h.rc j R2 r2 e e2'
      obtain ⟨t1, t2, t3, t4, t5⟩ := h.tR j R2 e
      obtain ⟨dx2, e3⟩ := q.a
      exact ⟨⟨dx2, out t1 (by intro z; cases z) e3⟩, out t2 (by intro z; cases z) q.d, out t3 (by intro z; cases z) q.p, out t4 (by intro z; cases z) q.s, out t5 (by intro z; cases z) q.h⟩
    · have e2' : (M.recs ++ [r])[A.recs.length]? = some r2 := e2
      rw [h.lr, List.getElem?_append_right (Nat.le_refl _)] at e2'
      simp at e2'
      subst e2'
      exact hr
theorem rd_Shelf_begin (kf : KF K) (h : sp_Shelf_begin P w K vs H Q E) : t_Shelf_begin P w K { nx := fun _ H' => Q .non H', rt := Q } (start ["self"] vs) H := by
  refine rd_N h fun G0 ms S mQ mX h => ?_
  obtain ⟨s, M, rfl, hs, hl, q⟩ := h
  refine sh_open hs fun S1 A hA dj => ?_
  have hA' : ShAt K (ov (mer S s) S1) s A M := hA.sub sub_ov
  unfold t_Shelf_begin bodyN
  walk_at "s0"
  walk_at "md"
  refine m_bm ?_
  walk_at "md"
  refine f_recs kf hA' ?_
  refine ⟨tyL_M hA'.r0, ?_⟩
  walk_at "md"
  refine m_make cx0 ?_
  walk_at "md"
  refine f_row kf hA' ?_
  walk_at "md"
  refine m_lenM hA'.w0 ?_
  rw [natsM_len]
  walk_at "md"
  intro x dx hx
  refine ⟨x, dx, M.row.length, rfl, mup_same, fun d p u t hnd hd hp hu ht dx' => ?_⟩
  refine ⟨rfl, ?_⟩
  walk_at "md"
  have hx1 := (ov_none hx).1
  have fr : ∀ {b : Addr}, mup (ov (mer S s) S1) x (.ins (He.ga K "Record") dx []) b = none → S1 b = none ∧ mer S s b = none := fun e => ov_none (mup_none e).2
  have lar : (A.recs.map fun R => MV.mu R.a).length = M.recs.length := by rw [List.length_map, hA.lr]
  -- the state, put in order
  have est : mup (mup (mup (mup (mup (mup (ov (mer S s) S1) x (.ins (He.ga K "Record") dx [])) d (.lst [])) p (.lst [])) u (.dct [])) t (.dct [])) x (.ins (He.ga K "Record") dx' (recF M.row.length 0 "open" d p u t)) =
      ov (mer S s) (mup (mup (mup (mup (mup (mup S1 x (.ins (He.ga K "Record") dx [])) d (.lst [])) p (.lst [])) u (.dct [])) t (.dct [])) x (.ins (He.ga K "Record") dx' (recF M.row.length 0 "open" d p u t))) := by
    simp only [ov_up]
  rw [est]
  generalize hS2 : mup (mup (mup (mup (mup (mup S1 x (.ins (He.ga K "Record") dx [])) d (.lst [])) p (.lst [])) u (.dct [])) t (.dct [])) x (.ins (He.ga K "Record") dx' (recF M.row.length 0 "open" d p u t)) = S2
  have hnd' := hnd
  simp only [List.nodup_cons, List.mem_cons, List.not_mem_nil, or_false, not_or, not_false_eq_true, List.nodup_nil, and_true] at hnd'
  obtain ⟨⟨m1, m2, m3, m4⟩, ⟨m5, m6, m7⟩, ⟨m8, m9⟩, m10⟩ := hnd'
  have keep : ∀ b o, S1 b = some o → S2 b = some o := fun b o e => by
    rw [← hS2]
    have k : ∀ {y : Addr}, S1 y = none → b ≠ y := fun h => by rintro rfl; rw [h] at e; cases e
    rw [mup_ne (k hx1), mup_ne (k (fr ht).1), mup_ne (k (fr hu).1), mup_ne (k (fr hp).1), mup_ne (k (fr hd).1), mup_ne (k hx1)]; exact e
  have dj2 : Dj (mer S s) S2 := by
    rw [← hS2]
    exact (((((dj.up (ov_none hx).2).up (fr hd).2).up (fr hp).2).up (fr hu).2).up (fr ht).2).up (ov_none hx).2
  have r02 : S2 A.ar = some (.lst (A.recs.map fun R => .mu R.a)) := keep _ _ hA.r0
  refine m_app (ov_in r02) (by rw [lar]; omega) ?_
  rw [ov_up]
  have nar : ∀ {y : Addr}, S1 y = none → y ≠ A.ar := fun h => by rintro rfl; rw [hA.r0] at h; cases h
  have hB := hA.addRec (R := ⟨x, d, p, u, t⟩) (r := newRec M.row.length) (S' := mup S2 A.ar (.lst ((A.recs.map fun R => .mu R.a) ++ [.mu x]))) hnd (fun y hy => by
      simp only [List.mem_cons, List.not_mem_nil, or_false] at hy
      rcases hy with rfl | rfl | rfl | rfl | rfl
      · exact hx1
      · exact (fr hd).1
      · exact (fr hp).1
      · exact (fr hu).1
      · exact (fr ht).1) (fun b o ne e => by rw [mup_ne ne]; exact keep b o e) mup_same
    ⟨⟨dx', by show mup _ _ _ x = _; rw [mup_ne (nar hx1), ← hS2, mup_same]; rfl⟩,
      by show mup _ _ _ d = _; rw [mup_ne (nar (fr hd).1), ← hS2, mup_ne (Ne.symm m1), mup_ne m7, mup_ne m6, mup_ne m5, mup_same]; rfl,
      by show mup _ _ _ p = _; rw [mup_ne (nar (fr hp).1), ← hS2, mup_ne (Ne.symm m2), mup_ne m9, mup_ne m8, mup_same]; rfl,
      by show mup _ _ _ u = _; rw [mup_ne (nar (fr hu).1), ← hS2, mup_ne (Ne.symm m3), mup_ne m10, mup_same]; rfl,
      by show mup _ _ _ t = _; rw [mup_ne (nar (fr ht).1), ← hS2, mup_ne (Ne.symm m4), mup_same]; rfl⟩
  have dj3 : Dj (mer S s) (mup S2 A.ar (.lst ((A.recs.map fun R => .mu R.a) ++ [.mu x]))) := dj2.old r02
  walk_at "md"
  refine f_recs (A := { A with recs := A.recs ++ [⟨x, d, p, u, t⟩], T := _ }) kf (hB.sub sub_ov) ?_
  walk_at "md"
  rw [List.length_append, lar]
  rw [show (((M.recs.length + [MV.mu x].length : Nat) : Int) - 1) = (M.recs.length : Nat) by simp]
  exact sh_up hB dj3 q
end
end Kr
set_option maxHeartbeats 1000000
namespace Kr
open PySem PySem.Spec L2
/-! ### under, write -/
def ShM.underOf (M : ShM) (r : RecM) (h : Str) : Puts := selA ((srt (keysA M.rows ++ keysA r.own)).filter fun n => underB n h) (M.seenBy r)
def ShM.underAt (M : ShM) (i : Nat) (r : RecM) (h : Str) : ShM := M.setRec i { r with heads := putA r.heads h (), done := r.done ++ [.under h (M.underOf r h)] }
def takenBy (n : Str) (r : RecM) : Bool := decide (r.mood = "open") && (getA r.own n).isSome
def ShM.taken (M : ShM) (i : Nat) (n : Str) : Bool := (List.range M.recs.length).any fun k => decide (k ≠ i) && (M.recs[k]?.any (takenBy n))
def ShM.late (M : ShM) (r : RecM) (n : Str) : Bool := (M.vers n).any fun v => decide (r.start < v.1)
def ShM.writeAt (M : ShM) (i : Nat) (r : RecM) (n : Str) (v : Val) : ShM := M.setRec i { r with puts := r.puts ++ [(n, v)], done := r.done ++ [.write n v] }
section
variable (K : PySem.W.Frag)
def mp_Shelf_under : Mp := fun ms S Q X => ∃ (s : Addr) (M : ShM) (d e : D), ms = [.mu s, .im d, .im e] ∧ S s = some (shO K M) ∧ ShOk M ∧ okIn d ∧ okIn e ∧
  match M.going d with
  | .error c => X (exc K c) S
  | .ok i => if headD e = true then ∀ h r, e = .str h → M.recs[i]? = some r → r.mood = "open" → ∀ q, S q = none → Q (.mu q) (mup (mup S s (shO K (M.underAt i r h))) q (.lst ((pairsD (M.underOf r h)).map .im))) else X (exc K "NoName") S
def mp_Shelf_write : Mp := fun ms S Q X => ∃ (s : Addr) (M : ShM) (d e f : D), ms = [.mu s, .im d, .im e, .im f] ∧ S s = some (shO K M) ∧ ShOk M ∧ okIn d ∧ okIn e ∧ okIn f ∧
  match M.going d with
  | .error c => X (exc K c) S
  | .ok i => if nameD e = true then (if valueD f = true then ∀ n v r, e = .str n → f = valD v → M.recs[i]? = some r → r.mood = "open" →
      (if M.taken i n = true then X (exc K "Taken") S else if M.late r n = true then X (exc K "Late") S else Q (.im .non) (mup S s (shO K (M.writeAt i r n v)))) else X (exc K "NoValue") S) else X (exc K "NoName") S
end
abbrev sp_Shelf_under (_ : Program) (_ : World) (K : PySem.W.Frag) : Sp := lift K (mp_Shelf_under K)
abbrev sp_Shelf_write (_ : Program) (_ : World) (K : PySem.W.Frag) : Sp := lift K (mp_Shelf_write K)
theorem headD_str {e : D} (h : headD e = true) : ∃ n, e = .str n ∧ HeadOk n := by
  cases e with
  | str n =>
    unfold headD at h
    dsimp only at h
    rw [Bool.and_eq_true] at h
    exact ⟨n, rfl, h.2, of_decide_eq_true h.1⟩
  | _ => cases h
theorem valueD_val {f : D} (h : valueD f = true) : ∃ v, f = valD v ∧ ValOk v := by
  cases f with
  | non => exact ⟨none, rfl, trivial⟩
  | int i =>
    unfold valueD at h
    dsimp only at h
    rw [Bool.and_eq_true] at h
    exact ⟨some i, rfl, of_decide_eq_true h.1, of_decide_eq_true h.2⟩
  | _ => cases h
theorem filter_fm (ns : List Str) (p : Str → Bool) (f : Str → Val) : selA (ns.filter p) f = ns.filterMap fun n => if (p n && !decide (f n = none)) = true then some (n, f n) else none := by
  unfold selA
  induction ns with
  | nil => rfl
  | cons n ns ih =>
    rw [List.filter_cons, List.filterMap_cons]
    cases hp : p n with
    | true =>
      rw [if_pos rfl, List.filterMap_cons, ih]
      by_cases hf : f n = none
      · simp [hf]
      · simp [hf]
    | false =>
      rw [if_neg (by simp), ih]
      simp
theorem zip_keys {rows : List (Str × Vers)} {vers : List Addr} (hl : vers.length = rows.length) : keysA ((keysA rows).zip vers) = keysA rows := by
  induction rows generalizing vers with
  | nil => cases vers <;> rfl
  | cons p rows ih =>
    cases vers with
    | nil => cases hl
    | cons a vers =>
      show p.1 :: keysA ((keysA rows).zip vers) = _
      rw [ih (by simpa using hl)]; rfl
theorem any_range {α : Type} (xs : List α) (p : Nat → α → Bool) (h : ∀ (j : Nat) x, xs[j]? = some x → p j x = false) : ((List.range xs.length).any fun k => xs[k]?.any (p k)) = false := by
  rw [List.any_eq_false]
  intro k hk
  rw [List.mem_range] at hk
  rw [List.getElem?_eq_getElem hk]
  simp only [Option.any_some]
  rw [h k _ (List.getElem?_eq_getElem hk)]; decide
section
variable {P : Program} {w : World} {K : PySem.W.Frag} {vs : List V} {H : Hp} {Q : VK} {E : XK}
theorem len_Shelf_under (h : sp_Shelf_under P w K vs H Q E) : vs.length = 3 := lift_len (by rintro ms S mQ mX ⟨_, _, _, _, rfl, _⟩; rfl) h
theorem len_Shelf_write (h : sp_Shelf_write P w K vs H Q E) : vs.length = 4 := lift_len (by rintro ms S mQ mX ⟨_, _, _, _, _, rfl, _⟩; rfl) h
def t_Shelf_under (P : Program) (w : World) (K : PySem.W.Frag) (E : XK) : TS :=
  (tSeq (tAsg (tMeth (He.ga K "Shelf") "going" (sp_Shelf_going P w K) [] E (tVar 0) (tCons (tVar 1) tNil)) (gName 3)) (tSeq (tIfS (tNot (tB (tCall (sp_is_head P w K) [] E0 (tCons (tVar 2) tNil)))) (tRaise E (.ref (He.ga K "NoName"))) tNext) (tSeq (sDPut (tFld K (tVar 3) "heads") (tVar 2) (tC (.bl true))) (tSeq (tAsg (tLst tNil) (gName 4)) (tSeq (tFor (iList K (tSortSet K (tOp rCat (tCB c_listD (tCons (tFld K (tVar 0) "rows") tNil)) (tCB c_listD (tCons (tMeth (He.ga K "Record") "written" (sp_Record_written P w K) [] E0 (tVar 3) tNil) tNil))))) (gName 5) (tSeq (tAsg (tMeth (He.ga K "Shelf") "seen_by" (sp_Shelf_seen_by P w K) [] E0 (tVar 0) (tCons (tVar 3) (tCons (tVar 5) tNil))) (gName 6)) (tIfS (tAnd (tB (tCall (sp_is_under P w K) [] E0 (tCons (tVar 5) (tCons (tVar 2) tNil)))) (tTest (tOp r_notN (tVar 6) (tC .non)))) (tDrop (tBM K "list" rAppend (tVar 4) (tCons (tTup (tCons (tVar 5) (tCons (tVar 6) tNil))) tNil))) tNext))) (tSeq (tDrop (tBM K "list" rAppend (tFld K (tVar 3) "done") (tCons (tTup (tCons (tC (.str "under")) (tCons (tVar 2) (tCons (tCB (c_list K) (tCons (tVar 4) tNil)) tNil)))) tNil))) (tRet (tVar 4))))))))

def t_Shelf_write (P : Program) (w : World) (K : PySem.W.Frag) (E : XK) : TS :=
  (tSeq (tAsg (tMeth (He.ga K "Shelf") "going" (sp_Shelf_going P w K) [] E (tVar 0) (tCons (tVar 1) tNil)) (gName 4)) (tSeq (tIfS (tNot (tB (tCall (sp_is_name P w K) [] E0 (tCons (tVar 2) tNil)))) (tRaise E (.ref (He.ga K "NoName"))) tNext) (tSeq (tIfS (tNot (tB (tCall (sp_is_value P w K) [] E0 (tCons (tVar 3) tNil)))) (tRaise E (.ref (He.ga K "NoValue"))) tNext) (tSeq (tFor (iEnum K (tCons (tFld K (tVar 0) "records") tNil)) (gTup K 2 (gCons (gName 5) (gCons (gName 6) gNil))) (tIfS (tAnd (tTest (tOp rNe (tVar 5) (tVar 1))) (tAnd (tTest (tOp rEq (tFld K (tVar 6) "mood") (tC (.str "open")))) (tB (tDIn (tVar 2) (tMeth (He.ga K "Record") "written" (sp_Record_written P w K) [] E0 (tVar 6) tNil))))) (tRaise E (.ref (He.ga K "Taken"))) tNext)) (tSeq (tFor (iList K (tDGet2 (tFld K (tVar 0) "rows") (tVar 2) (tLst tNil))) (gName 7) (tIfS (tTest (tOp r_gt (tOp (rIxT K) (tVar 7) (tC (.int 0))) (tFld K (tVar 4) "start"))) (tRaise E (.ref (He.ga K "Late"))) tNext)) (tSeq (tDrop (tBM K "list" rAppend (tFld K (tVar 4) "puts") (tCons (tTup (tCons (tVar 2) (tCons (tVar 3) tNil))) tNil))) (tDrop (tBM K "list" rAppend (tFld K (tVar 4) "done") (tCons (tTup (tCons (tC (.str "write")) (tCons (tVar 2) (tCons (tVar 3) tNil)))) tNil)))))))))

theorem sh_fresh2 {S S1 : MS} {s p : Addr} {A : ShA} {M' : ShM} {o : MO} {mQ : MV → MS → Prop} {m : MV} (hA : ShAt K S1 s A M') (dj : Dj (mer S s) S1) (hp : ov (mer S s) S1 p = none) (q : S p = none → mQ m (mup (mup S s (shO K M')) p o)) : Up K mQ m (mup (ov (mer S s) S1) p o) := by
  obtain ⟨h1, h2⟩ := ov_none hp
  have ne : p ≠ s := by
    rintro rfl
    obtain ⟨dx, e⟩ := hA.s0
    rw [e] at h1; cases h1
  rw [mer_ne ne] at h2
  rw [ov_out h1, mer_out ne]
  refine sh_up hA (fun a u e => ?_) ?_
  · have ha : a ≠ p := by rintro rfl; rw [h1] at e; cases e
    by_cases z : a = s
    · simp [mer, z]
    · rw [mer_ne z, mup_ne ha]
      have := dj a u e
      rw [mer_ne z] at this; exact this
  · rw [mup_comm ne]
    exact q h2
theorem rd_Shelf_under (kf : KF K) (h : sp_Shelf_under P w K vs H Q E) : t_Shelf_under P w K E { nx := fun _ H' => Q .non H', rt := Q } (start ["self", "number", "head", "record", "found", "name", "told"] vs) H := by
  refine rd_X h fun G0 Ex ms S mQ mX hX h => ?_
  obtain ⟨s, M, d, e, rfl, hs, ok, hd, he, q⟩ := h
  refine sh_open hs fun S1 A hA dj => ?_
  unfold t_Shelf_under bodyN
  walk_at "s0"
  walk_at "md"
  refine m_meth hX ?_
  walk_at "md"
  refine ⟨s, rfl, i_sh (hA.sub sub_ov) (by decide +kernel), ?_⟩
  walk_at "md"
  refine ⟨s, A, M, d, rfl, hA.sub sub_ov, hd, ?_⟩
  cases hg : M.going d with
  | error c => rw [hg] at q; exact sh_sameX hs hA dj q
  | ok i =>
    rw [hg] at q
    intro R r hR hr hAt ho
    have hr1 := hA.rc i R r hR hr
    have hi := (List.getElem?_eq_some_iff.mp hr).1
    have rok := ok.rc r (List.mem_of_getElem? hr)
    have hpu := rok.puts
    have hdo := rok.done
    walk_at "md"
    refine ⟨e, rfl, he, ?_⟩
    cases hn : headD e with
    | false =>
      rw [hn] at q
      walk_at "md"
      exact m_raise hX (sh_sameX hs hA dj q)
    | true =>
      obtain ⟨h, rfl, hok⟩ := headD_str hn
      rw [hn] at q
      have q := q h r rfl hr ho
      walk_at "md"
      refine f_heads kf hAt ?_
      walk_at "md"
      refine ⟨_, h, _, rfl, rfl, ov_in hr1.h, by rw [kvF_len]; have := rok.heads; omega, ?_⟩
      rw [putM_kvF (f := uM) (v := ()), ov_up]
      have hA1 := hA.setH hR hr1 (putA r.heads h ())
      have dj1 : Dj (mer S s) (mup S1 R.h (.dct (kvU (putA r.heads h ())))) := dj.old hr1.h
      have hr2 : (M.setRec i { r with heads := putA r.heads h () }).recs[i]? = some { r with heads := putA r.heads h () } := setRec_get hi
      have at2 := hA1.rc i _ _ hR hr2
      generalize mup S1 R.h (.dct (kvU (putA r.heads h ()))) = S2 at hA1 dj1 at2 ⊢
      walk_at "md"
      refine m_lstM ?_
      walk_at "md"
      refine ⟨by simp, fun f hf => ?_⟩
      obtain ⟨hA2, dj2, _⟩ := hA1.more (o := .lst []) dj1 hf
      rw [ov_up]
      walk_at "md"
      refine n_for (i_list ?_)
      refine m_sortSet ?_
      walk_at "md"
      refine f_rows kf (hA2.sub sub_ov) ?_
      walk_at "md"
      refine m_listD (.d (ov_in hA2.d0)) ?_
      rw [kvF_kD, zip_keys hA2.lv]
      walk_at "md"
      refine m_meth0 ?_
      walk_at "md"
      have at3 := at2.sub (Sub.rfl'.mup (o := .lst []) (ov_none hf).1)
      refine ⟨R.a, rfl, i_rec (at3.sub sub_ov) (by decide +kernel), ?_⟩
      walk_at "md"
      refine p_written (at3.sub sub_ov) (by dsimp only; omega) fun b hb => ?_
      walk_at "md"
      refine m_listD (.d mup_same) ?_
      rw [kvF_kD]
      refine m_catI (by rw [strs_len, strs_len]; have := ok.rows; have := rok.own; simp only [keysA, List.length_map]; dsimp only [RecM.own, ShM.setRec] at *; omega) ?_
      rw [show dStrs (keysA (M.setRec i { r with heads := putA r.heads h () }).rows) ++ dStrs (keysA (RecM.own { r with heads := putA r.heads h () })) = dStrs (keysA M.rows ++ keysA r.own) by unfold dStrs; rw [List.map_append]; rfl]
      refine ⟨_, rfl, by have := ok.rows; have := rok.own; simp only [keysA, List.length_append, List.length_map]; omega, fun ys hys => ?_⟩
      have hyss := sortedOf_srt hys
      have hmem : ∀ n ∈ ys, n.length ≤ 12 := fun n hn => by
        rw [hyss, mem_srt, List.mem_append] at hn
        rcases hn with hn | hn
        · obtain ⟨p, hp, rfl⟩ := List.mem_map.mp hn; exact (ok.nm p hp).2.2
        · rw [mem_keys_last] at hn
          obtain ⟨p, hp, rfl⟩ := List.mem_map.mp hn; exact (rok.nm p hp).2.2
      have hylen : ys.length ≤ 4000 := by
        rw [hyss]
        refine Nat.le_trans (srt_len _) ?_
        have := ok.rows; have := rok.own; simp only [keysA, List.length_append, List.length_map]; omega
      have eqU : M.underOf r h = ys.filterMap fun n => if (underB n h && !decide (M.seenBy r n = none)) = true then some (n, M.seenBy r n) else none := by
        unfold ShM.underOf; rw [filter_fm, hyss]
      refine .inl ⟨dStrs ys, rfl, fun i' E' S' => (∃ u v, E' = [some (.mu s), some (.im d), some (.im (.str h)), some (.mu R.a), some (.mu f), u, v]) ∧ Sub (ov (mer S s) (mup S2 f (.lst ((pairsD ((ys.take i').filterMap fun n => if (underB n h && !decide (M.seenBy r n = none)) = true then some (n, M.seenBy r n) else none)).map .im)))) S', ⟨⟨none, none, rfl⟩, Sub.rfl'.mup hb⟩, fun _ _ _ _ _ => trivial, ?_, ?_⟩
      · rintro j m E' S' hj ⟨dd, hdd, rfl⟩ ⟨⟨u, v, rfl⟩, hsub⟩
        obtain ⟨n, en, rfl⟩ := strs_get hdd
        have hn12 := hmem n (List.mem_of_getElem? en)
        refine g_name ?_
        refine s_sub hsub ?_
        have sbf : ∀ o, Sub S2 (mup S2 f o) := fun o => Sub.rfl'.mup (ov_none hf).1
        walk_at "md"
        refine m_meth0 ?_
        walk_at "md"
        refine ⟨s, rfl, i_sh ((hA1.sub (sbf _)).sub sub_ov) (by decide +kernel), ?_⟩
        walk_at "md"
        refine ⟨s, A, _, i, R, _, n, rfl, (hA1.sub (sbf _)).sub sub_ov, hR, (at2.sub (sbf _)).sub sub_ov, by dsimp only; omega, ?_⟩
        rw [show (M.setRec i { r with heads := putA r.heads h () }).seenBy { r with heads := putA r.heads h () } n = M.seenBy r n from rfl]
        walk_at "md"
        refine ⟨n, h, rfl, by omega, by have := hok.2; omega, ?_⟩
        have et : (ys.take (j + 1)).filterMap (fun n => if (underB n h && !decide (M.seenBy r n = none)) = true then some (n, M.seenBy r n) else none) = (ys.take j).filterMap (fun n => if (underB n h && !decide (M.seenBy r n = none)) = true then some (n, M.seenBy r n) else none) ++ [n].filterMap (fun n => if (underB n h && !decide (M.seenBy r n = none)) = true then some (n, M.seenBy r n) else none) := by
          rw [List.take_succ, en, List.filterMap_append]; rfl
        walk_at "md"
        refine ⟨fun hu => ?_, fun hu => ?_⟩
        · walk_at "md"
          rw [isN_val]
          refine ⟨fun hv => ?_, fun hv => ?_⟩
          · walk_at "md"
            refine m_bm ?_
            walk_at "md"
            refine ⟨tyL_M (ov_in mup_same), ?_⟩
            walk_at "md"
            refine m_tupI ?_
            walk_at "md"
            refine ⟨[.str n, valD (M.seenBy r n)], rfl, by simp, ?_⟩
            walk_at "md"
            refine m_app (ov_in mup_same) (by
              rw [List.length_map]; unfold pairsD; rw [List.length_map]
              refine Nat.le_trans (List.length_filterMap_le _ _) ?_
              rw [List.length_take]; omega) ?_
            refine ⟨⟨_, _, rfl⟩, ?_⟩
            rw [ov_up, mup_mup, et]
            have e1 : [n].filterMap (fun n => if (underB n h && !decide (M.seenBy r n = none)) = true then some (n, M.seenBy r n) else none) = [(n, M.seenBy r n)] := by
              simp only [List.filterMap_cons, List.filterMap_nil]
              rw [if_pos (by rw [hu, Bool.true_and]; exact hv)]
            rw [e1]
            unfold pairsD
            rw [List.map_append, List.map_append]
            exact Sub.rfl'
          · walk_at "md"
            refine ⟨⟨_, _, rfl⟩, ?_⟩
            rw [et]
            have e1 : [n].filterMap (fun n => if (underB n h && !decide (M.seenBy r n = none)) = true then some (n, M.seenBy r n) else none) = [] := by
              simp only [List.filterMap_cons, List.filterMap_nil]
              rw [if_neg (by rw [hv]; simp)]
            rw [e1, List.append_nil]
            exact Sub.rfl'
        · walk_at "md"
          refine ⟨⟨_, _, rfl⟩, ?_⟩
          rw [et]
          have e1 : [n].filterMap (fun n => if (underB n h && !decide (M.seenBy r n = none)) = true then some (n, M.seenBy r n) else none) = [] := by
            simp only [List.filterMap_cons, List.filterMap_nil]
            rw [if_neg (by rw [hu]; simp)]
          rw [e1, List.append_nil]
          exact Sub.rfl'
      · rintro E' S' ⟨⟨u, v, rfl⟩, hsub⟩
        have hfin : ys.take (srcD (dStrs ys)).n = ys := by rw [show (srcD (dStrs ys)).n = ys.length from strs_len ys, List.take_length]
        rw [hfin, ← eqU] at hsub
        refine s_sub hsub ?_
        have sbf : ∀ o, Sub S2 (mup S2 f o) := fun o => Sub.rfl'.mup (ov_none hf).1
        have hA4 := hA1.sub (sbf (.lst ((pairsD (M.underOf r h)).map .im)))
        have at4 := at2.sub (sbf (.lst ((pairsD (M.underOf r h)).map .im)))
        walk_at "md"
        refine m_bm ?_
        walk_at "md"
        refine f_done kf (at4.sub sub_ov) ?_
        refine ⟨tyL_M (ov_in at4.d), ?_⟩
        walk_at "md"
        refine m_tupI ?_
        walk_at "md"
        refine m_listMI (ov_in mup_same) ?_
        walk_at "md"
        refine ⟨[.str "under", .str h, .lst (pairsD (M.underOf r h))], rfl, by simp, ?_⟩
        walk_at "md"
        refine m_app (ov_in at4.d) (by rw [List.length_map]; dsimp only; omega) ?_
        rw [show ((r.done.map fun d => MV.im (deedD d)) ++ [MV.im (.tup [.str "under", .str h, .lst (pairsD (M.underOf r h))])]) = (r.done ++ [Deed.under h (M.underOf r h)]).map fun d => MV.im (deedD d) by rw [List.map_append]; rfl]
        walk_at "md"
        have nfd : f ≠ R.d := by rintro rfl; have := (ov_none hf).1; rw [at2.d] at this; cases this
        rw [ov_up, mup_comm nfd, ← ov_up]
        refine sh_fresh2 (hA1.setD hR at2 (r.done ++ [Deed.under h (M.underOf r h)])) (dj1.old at2.d) ?_ fun hf2 => ?_
        · unfold ov
          rw [mup_ne nfd, (ov_none hf).1]
          exact (ov_none hf).2
        · rw [setRec_setRec]
          exact q f hf2
theorem rd_Shelf_write (kf : KF K) (h : sp_Shelf_write P w K vs H Q E) : t_Shelf_write P w K E { nx := fun _ H' => Q .non H', rt := Q } (start ["self", "number", "name", "value", "record", "k", "other", "version"] vs) H := by
  refine rd_X h fun G0 Ex ms S mQ mX hX h => ?_
  obtain ⟨s, M, d, e, f, rfl, hs, ok, hd, he, hf, q⟩ := h
  refine sh_open hs fun S1 A hA dj => ?_
  have hA' : ShAt K (ov (mer S s) S1) s A M := hA.sub sub_ov
  unfold t_Shelf_write bodyN
  walk_at "s0"
  walk_at "md"
  refine m_meth hX ?_
  walk_at "md"
  refine ⟨s, rfl, i_sh hA' (by decide +kernel), ?_⟩
  walk_at "md"
  refine ⟨s, A, M, d, rfl, hA', hd, ?_⟩
  cases hg : M.going d with
  | error c => rw [hg] at q; exact sh_sameX hs hA dj q
  | ok i =>
    rw [hg] at q
    intro R r hR hr hAt ho
    have hr1 := hA.rc i R r hR hr
    have hi := (List.getElem?_eq_some_iff.mp hr).1
    have rok := ok.rc r (List.mem_of_getElem? hr)
    have hpu := rok.puts
    have hdo := rok.done
    obtain ⟨_, rfl⟩ := going_ok hg
    walk_at "md"
    refine ⟨e, rfl, he, ?_⟩
    cases hn : nameD e with
    | false =>
      rw [hn] at q
      walk_at "md"
      exact m_raise hX (sh_sameX hs hA dj q)
    | true =>
      obtain ⟨n, rfl, hok⟩ := nameD_str hn
      rw [hn] at q
      walk_at "md"
      refine ⟨f, rfl, hf, ?_⟩
      cases hv : valueD f with
      | false =>
        rw [hv] at q
        walk_at "md"
        exact m_raise hX (sh_sameX hs hA dj q)
      | true =>
        obtain ⟨v, rfl, hvk⟩ := valueD_val hv
        rw [hv] at q
        have q := q n v r rfl rfl hr ho
        walk_at "md"
        refine n_forE ?_
        walk_at "md"
        refine f_recs kf hA' ?_
        have lar : (A.recs.map fun R => MV.mu R.a).length = M.recs.length := by rw [List.length_map, hA.lr]
        refine ⟨_, .mu hA'.r0, fun j E' S' => (∃ u v', E' = [some (.mu s), some (.im (.int i)), some (.im (.str n)), some (.im (valD v)), some (.mu R.a), u, v', none]) ∧ Sub (ov (mer S s) S1) S' ∧ ∀ k < j, (decide (k ≠ i) && (M.recs[k]?.any (takenBy n))) = false, ⟨⟨none, none, rfl⟩, Sub.rfl', fun k hk => absurd hk (Nat.not_lt_zero k)⟩, ?_, ?_, ?_⟩
        · rintro j E' S' _ ⟨_, hsub, _⟩; exact .mu (hsub _ _ hA'.r0)
        · rintro j x E' S' ex hj ⟨⟨u, v', rfl⟩, hsub, hall⟩
          rw [List.length_map] at hj
          obtain ⟨Rj, hRj⟩ : ∃ Rj, A.recs[j]? = some Rj := ⟨_, List.getElem?_eq_getElem hj⟩
          rw [List.getElem?_map, hRj] at ex
          cases ex
          obtain ⟨rj, hrj⟩ : ∃ rj, M.recs[j]? = some rj := ⟨_, List.getElem?_eq_getElem (by rw [← hA.lr]; exact hj)⟩
          have atj := (hA'.rc j Rj rj hRj hrj).sub hsub
          have okj := ok.rc rj (List.mem_of_getElem? hrj)
          have hpj := okj.puts
          have next : ∀ S'', Sub S' S'' → (decide (j ≠ i) && takenBy n rj) = false → (∃ u v', [some (.mu s), some (.im (.int i)), some (.im (.str n)), some (.im (valD v)), some (.mu R.a), some (.im (.int j)), some (.mu Rj.a), none] = [some (MV.mu s), some (.im (.int i)), some (.im (.str n)), some (.im (valD v)), some (.mu R.a), u, v', none]) ∧ Sub (ov (mer S s) S1) S'' ∧ ∀ k < j + 1, (decide (k ≠ i) && (M.recs[k]?.any (takenBy n))) = false := fun S'' hs2 hno => by
            refine ⟨⟨_, _, rfl⟩, hsub.trans hs2, fun k hk => ?_⟩
            by_cases hkj : k = j
            · subst hkj; rw [hrj]; exact hno
            · exact hall k (by omega)
          walk_at "md"
          refine ⟨fun h1 => ?_, fun h1 => ?_⟩
          · have h1' : ¬ j = i := by have h2 := h1; simp at h2; omega
            walk_at "md"
            refine f_mood kf atj ?_
            walk_at "md"
            refine ⟨fun h2 => ?_, fun h2 => ?_⟩
            · walk_at "md"
              refine m_meth0 ?_
              walk_at "md"
              refine ⟨Rj.a, rfl, i_rec atj (by decide +kernel), ?_⟩
              walk_at "md"
              refine p_written atj (by omega) fun b hb => ?_
              refine ⟨b, n, _, rfl, rfl, .d mup_same, ?_⟩
              rw [lkM_kvF, show ((getA rj.own n).map vM).isSome = (getA rj.own n).isSome by cases getA rj.own n <;> rfl]
              refine m_bl2 ⟨fun h3 => ?_, fun h3 => ?_⟩
              · have ht : M.taken i n = true := by
                  unfold ShM.taken
                  rw [List.any_eq_true]
                  refine ⟨j, List.mem_range.mpr (by rw [← hA.lr]; exact hj), ?_⟩
                  rw [hrj, decide_eq_true h1', Bool.true_and]
                  show takenBy n rj = true
                  unfold takenBy; rw [h2, h3]; rfl
                rw [if_pos ht] at q
                refine m_raise hX (upX_go (go_sub (hsub.trans (Sub.rfl'.mup hb))) (sh_sameX hs hA dj q))
              · walk_at "md"
                exact next _ (Sub.rfl'.mup hb) (by unfold takenBy; rw [h3, Bool.and_false, Bool.and_false])
            · walk_at "md"
              exact next _ Sub.rfl' (by unfold takenBy; rw [h2, Bool.false_and, Bool.and_false])
          · have h1' : j = i := by have h2 := h1; simp at h2; omega
            walk_at "md"
            exact next _ Sub.rfl' (by rw [h1']; simp)
        · rintro E' S' ⟨⟨u, v', rfl⟩, hsub, hall⟩
          rw [lar] at hall
          have hnt : ¬ M.taken i n = true := by
            unfold ShM.taken
            intro ht
            rw [List.any_eq_true] at ht
            obtain ⟨k, hk, h2⟩ := ht
            rw [hall k (List.mem_range.mp hk)] at h2
            cases h2
          rw [if_neg hnt] at q
          refine s_sub hsub ?_
          walk_at "md"
          refine n_for (i_listX ?_)
          refine m_dget2 ?_
          walk_at "md"
          refine f_rows kf hA' ?_
          refine ⟨⟨_, _, rfl, .d hA'.d0⟩, ?_⟩
          walk_at "md"
          refine m_lstI ?_
          walk_at "md"
          refine ⟨[], rfl, by simp, ?_⟩
          refine ⟨_, n, _, rfl, rfl, .d hA'.d0, ?_⟩
          refine ⟨_, hA'.get_ n, fun j E' S' => (∃ u v' w', E' = [some (.mu s), some (.im (.int i)), some (.im (.str n)), some (.im (valD v)), some (.mu R.a), u, v', w']) ∧ S' = ov (mer S s) S1 ∧ ∀ k < j, ∀ p, (M.vers n)[k]? = some p → p.1 ≤ r.start, ⟨⟨_, _, _, rfl⟩, rfl, fun k hk => absurd hk (Nat.not_lt_zero k)⟩, ?_, ?_, ?_⟩
          · rintro j E' S' _ ⟨_, rfl, _⟩; exact hA'.get_ n
          · rintro j m E' S' hj em ⟨⟨u, v', w', rfl⟩, rfl, hall2⟩
            obtain ⟨p, ep, rfl⟩ := versM_get em
            obtain ⟨st, pv⟩ := p
            unfold verD
            walk_at "md"
            refine f_start kf hAt ?_
            walk_at "md"
            refine ⟨fun h1 => ?_, fun h1 => ?_⟩
            · have h1' : r.start < st := by have := of_decide_eq_true h1; omega
              have hl : M.late r n = true := by
                unfold ShM.late
                rw [List.any_eq_true]
                exact ⟨(st, pv), List.mem_of_getElem? ep, decide_eq_true h1'⟩
              rw [if_pos hl] at q
              exact m_raise hX (sh_sameX hs hA dj q)
            · have h1' : st ≤ r.start := by have := of_decide_eq_false h1; omega
              walk_at "md"
              refine ⟨⟨_, _, _, rfl⟩, rfl, fun k hk p hp => ?_⟩
              by_cases hkj : k = j
              · subst hkj; rw [ep] at hp; cases hp; exact h1'
              · exact hall2 k (by omega) p hp
          · rintro E' S' ⟨⟨u, v', w', rfl⟩, rfl, hall2⟩
            dsimp only at hall2
            rw [versM_len] at hall2
            have hnl : ¬ M.late r n = true := by
              unfold ShM.late
              intro ht
              rw [List.any_eq_true] at ht
              obtain ⟨p, hp, h2⟩ := ht
              obtain ⟨k, hk, rfl⟩ := List.getElem_of_mem hp
              have := hall2 k hk _ (List.getElem?_eq_getElem hk)
              have := of_decide_eq_true h2
              omega
            rw [if_neg hnl] at q
            walk_at "md"
            refine m_bm ?_
            walk_at "md"
            refine f_puts kf hAt ?_
            refine ⟨tyL_M hAt.p, ?_⟩
            walk_at "md"
            refine m_tupI ?_
            walk_at "md"
            refine ⟨[.str n, valD v], rfl, by simp, ?_⟩
            walk_at "md"
            refine m_app hAt.p (by unfold pairsD; rw [List.length_map, List.length_map]; omega) ?_
            rw [ov_up, show (((pairsD r.puts).map MV.im) ++ [MV.im (.tup [.str n, valD v])]) = (pairsD (r.puts ++ [(n, v)])).map MV.im by unfold pairsD; rw [List.map_append, List.map_append]; rfl]
            have hB := hA.setP hR hr1 (r.puts ++ [(n, v)])
            have djB : Dj (mer S s) (mup S1 R.p (.lst ((pairsD (r.puts ++ [(n, v)])).map .im))) := dj.old hr1.p
            have atB := hB.rc i _ _ hR (setRec_get hi)
            walk_at "md"
            refine m_bm ?_
            walk_at "md"
            refine f_done kf (atB.sub sub_ov) ?_
            refine ⟨tyL_M (ov_in atB.d), ?_⟩
            walk_at "md"
            refine m_tupI ?_
            walk_at "md"
            refine ⟨[.str "write", .str n, valD v], rfl, by simp, ?_⟩
            walk_at "md"
            refine m_app (ov_in atB.d) (by rw [List.length_map]; dsimp only; omega) ?_
            rw [ov_up, show ((r.done.map fun d => MV.im (deedD d)) ++ [MV.im (.tup [.str "write", .str n, valD v])]) = (r.done ++ [Deed.write n v]).map fun d => MV.im (deedD d) by rw [List.map_append]; rfl]
            refine sh_up (hB.setD hR atB (r.done ++ [Deed.write n v])) (djB.old atB.d) ?_
            rw [setRec_setRec]
            exact q
end
end Kr
set_option maxHeartbeats 1000000
namespace Kr
open PySem PySem.Spec L2
/-! ### keeping -/
def aheadP (r o : RecM) (n : Str) : Bool := (getA r.own n).isSome || (r.looked n && decide (o.stamp ≤ r.start))
def aheadX (M : ShM) (r : RecM) (x : Nat) : List Nat := match M.recs[x]? with
  | none => []
  | some o => ((keysA o.own).filter (aheadP r o)).map (fun _ => x) ++ ((keysA r.own).filter o.looked).map fun _ => x
def ShM.aheadOf (M : ShM) (r : RecM) : List Nat := M.row.flatMap (aheadX M r)
def behindP (r o : RecM) (n : Str) : Bool := r.looked n && decide (r.start < o.stamp)
def behindX (M : ShM) (r : RecM) (x : Nat) : List Nat := match M.recs[x]? with
  | none => []
  | some o => ((keysA o.own).filter (behindP r o)).map fun _ => x
def ShM.behindOf (M : ShM) (r : RecM) : List Nat := M.row.flatMap (behindX M r)
def mp_Shelf_ahead_of (K : PySem.W.Frag) : Mp := fun ms S Q _ => ∃ (s : Addr) (A : ShA) (M : ShM) (i : Nat) (R : RecA) (r : RecM), ms = [.mu s, .mu R.a] ∧ ShAt K S s A M ∧ ShOk M ∧ A.recs[i]? = some R ∧ RecAt K S R r ∧ RecOk r ∧ ∀ q, S q = none → Q (.mu q) (mup S q (.lst ((dNats (M.aheadOf r)).map .im)))
def mp_Shelf_behind (K : PySem.W.Frag) : Mp := fun ms S Q _ => ∃ (s : Addr) (A : ShA) (M : ShM) (i : Nat) (R : RecA) (r : RecM), ms = [.mu s, .mu R.a] ∧ ShAt K S s A M ∧ ShOk M ∧ A.recs[i]? = some R ∧ RecAt K S R r ∧ RecOk r ∧ ∀ q, S q = none → Q (.mu q) (mup S q (.lst ((dNats (M.behindOf r)).map .im)))
abbrev sp_Shelf_ahead_of (_ : Program) (_ : World) (K : PySem.W.Frag) : Sp := lift K (mp_Shelf_ahead_of K)
abbrev sp_Shelf_behind (_ : Program) (_ : World) (K : PySem.W.Frag) : Sp := lift K (mp_Shelf_behind K)
theorem nats_app (xs ys : List Nat) : (dNats xs).map MV.im ++ (dNats ys).map MV.im = (dNats (xs ++ ys)).map MV.im := by unfold dNats dInts; simp only [List.map_append]
theorem nats_snoc (xs : List Nat) (x : Nat) : (dNats xs).map MV.im ++ [.im (.int x)] = (dNats (xs ++ [x])).map MV.im := nats_app xs [x]
theorem flatMap_len {f : Nat → List Nat} {c : Nat} (h : ∀ x, (f x).length ≤ c) (xs : List Nat) : (xs.flatMap f).length ≤ xs.length * c := by
  induction xs with
  | nil => simp
  | cons x xs ih => rw [List.flatMap_cons, List.length_append, List.length_cons, Nat.add_mul, Nat.one_mul]; have := h x; omega
theorem take_flat {f : Nat → List Nat} {xs : List Nat} {i x : Nat} (h : xs[i]? = some x) : (xs.take (i + 1)).flatMap f = (xs.take i).flatMap f ++ f x := by
  rw [List.take_succ, h, List.flatMap_append]; simp
theorem take_filter {α : Type} {p : Str → Bool} {d : List (Str × α)} {j : Nat} {q : Str × α} (x : Nat) (h : d[j]? = some q) : ((keysA (d.take (j + 1))).filter p).map (fun _ => x) = ((keysA (d.take j)).filter p).map (fun _ => x) ++ if p q.1 = true then [x] else [] := by
  rw [List.take_succ, h]
  unfold keysA
  rw [List.map_append, List.filter_append, List.map_append]
  simp only [Option.toList, List.map_cons, List.map_nil, List.filter_cons, List.filter_nil]
  split <;> simp
theorem getSome {o : Option Val} : (o.map vM).isSome = o.isSome := by cases o <;> rfl
section
variable {P : Program} {w : World} {K : PySem.W.Frag} {vs : List V} {H : Hp} {Q : VK} {E : XK}
theorem len_Shelf_ahead_of (h : sp_Shelf_ahead_of P w K vs H Q E) : vs.length = 2 := lift_len (by rintro ms S mQ mX ⟨_, _, _, _, _, _, rfl, _⟩; rfl) h
theorem len_Shelf_behind (h : sp_Shelf_behind P w K vs H Q E) : vs.length = 2 := lift_len (by rintro ms S mQ mX ⟨_, _, _, _, _, _, rfl, _⟩; rfl) h
def t_Shelf_ahead_of (P : Program) (w : World) (K : PySem.W.Frag) : TS :=
  (tSeq (tAsg (tLst tNil) (gName 2)) (tSeq (tAsg (tMeth (He.ga K "Record") "written" (sp_Record_written P w K) [] E0 (tVar 1) tNil) (gName 3)) (tSeq (tFor (iList K (tFld K (tVar 0) "row")) (gName 4) (tSeq (tAsg (tOp (rIxL K) (tFld K (tVar 0) "records") (tVar 4)) (gName 5)) (tSeq (tFor (iKeys (tFreeze (tMeth (He.ga K "Record") "written" (sp_Record_written P w K) [] E0 (tVar 5) tNil))) (gName 6) (tIfS (tOr (tB (tDIn (tVar 6) (tVar 3))) (tAnd (tB (tMeth (He.ga K "Record") "looked" (sp_Record_looked P w K) [] E0 (tVar 1) (tCons (tVar 6) tNil))) (tTest (tOp r_le (tFld K (tVar 5) "stamp") (tFld K (tVar 1) "start"))))) (tDrop (tBM K "list" rAppend (tVar 2) (tCons (tVar 4) tNil))) tNext)) (tLock (tFor (iKeys (tVar 3)) (gName 6) (tIfS (tB (tMeth (He.ga K "Record") "looked" (sp_Record_looked P w K) [] E0 (tVar 5) (tCons (tVar 6) tNil))) (tDrop (tBM K "list" rAppend (tVar 2) (tCons (tVar 4) tNil))) tNext)))))) (tRet (tVar 2)))))

def t_Shelf_behind (P : Program) (w : World) (K : PySem.W.Frag) : TS :=
  (tSeq (tAsg (tLst tNil) (gName 2)) (tSeq (tFor (iList K (tFld K (tVar 0) "row")) (gName 3) (tSeq (tAsg (tOp (rIxL K) (tFld K (tVar 0) "records") (tVar 3)) (gName 4)) (tFor (iKeys (tFreeze (tMeth (He.ga K "Record") "written" (sp_Record_written P w K) [] E0 (tVar 4) tNil))) (gName 5) (tIfS (tAnd (tB (tMeth (He.ga K "Record") "looked" (sp_Record_looked P w K) [] E0 (tVar 1) (tCons (tVar 5) tNil))) (tTest (tOp r_gt (tFld K (tVar 4) "stamp") (tFld K (tVar 1) "start")))) (tDrop (tBM K "list" rAppend (tVar 2) (tCons (tVar 3) tNil))) tNext)))) (tRet (tVar 2))))

theorem rd_Shelf_behind (kf : KF K) (h : sp_Shelf_behind P w K vs H Q E) : t_Shelf_behind P w K { nx := fun _ H' => Q .non H', rt := Q } (start ["self", "record", "found", "number", "other", "name"] vs) H := by
  refine rd_N h fun G0 ms S mQ mX h => ?_
  obtain ⟨s, A, M, i, R, r, rfl, hA, ok, hR, hr, rok, q⟩ := h
  unfold t_Shelf_behind bodyN
  walk_at "s0"
  walk_at "md"
  refine m_lstM ?_
  walk_at "md"
  refine ⟨by simp, fun f hf => ?_⟩
  have sbf : ∀ o, Sub S (mup S f o) := fun o => Sub.rfl'.mup hf
  walk_at "md"
  refine n_for (i_list ?_)
  walk_at "md"
  refine f_row kf (hA.sub (sbf _)) ?_
  refine .inr ⟨A.aw, _, rfl, (hA.sub (sbf _)).w0, fun j E' S' => (∃ u v w', E' = [some (.mu s), some (.mu R.a), some (.mu f), u, v, w']) ∧ Sub (mup S f (.lst ((dNats ((M.row.take j).flatMap (behindX M r))).map .im))) S', ⟨⟨none, none, none, rfl⟩, Sub.rfl'⟩, ?_, ?_, ?_⟩
  · rintro j E' S' _ ⟨_, hsub⟩; exact hsub _ _ (hA.sub (sbf _)).w0
  · rintro j m E' S' hj em ⟨⟨u, v, w', rfl⟩, hsub⟩
    obtain ⟨x, ex, rfl⟩ := natsM_get em
    have hj' : j < M.row.length := (List.getElem?_eq_some_iff.mp ex).1
    have hx := ok.inr x (List.mem_of_getElem? ex)
    obtain ⟨o, ho⟩ : ∃ o, M.recs[x]? = some o := ⟨_, List.getElem?_eq_getElem hx⟩
    obtain ⟨Ro, hRo, hro⟩ := hA.rec_ ho
    have oko := ok.rc o (List.mem_of_getElem? ho)
    have hpo := oko.puts
    have hown := oko.own
    refine g_name ?_
    refine s_sub hsub ?_
    generalize hacc : (M.row.take j).flatMap (behindX M r) = acc
    have hal : acc.length ≤ 3000 * 160 := by
      rw [← hacc]
      refine Nat.le_trans (flatMap_len (c := 160) (fun y => ?_) _) (by rw [List.length_take]; have := ok.row; exact Nat.mul_le_mul_right _ (by omega))
      unfold behindX
      split
      · simp
      · next o' ho' =>
        rw [List.length_map]
        refine Nat.le_trans (List.length_filter_le _ _) ?_
        have := (ok.rc o' (List.mem_of_getElem? ho')).own
        simpa [keysA] using this
    walk_at "md"
    refine f_recs kf (hA.sub (sbf _)) ?_
    walk_at "md"
    refine m_ixM (m := .mu Ro.a) (hA.sub (sbf _)).r0 (by rw [atI_nat, List.getElem?_map, hRo]; rfl) ?_
    walk_at "md"
    refine n_for (i_keys ?_)
    refine m_freeze ?_
    refine m_meth0 ?_
    walk_at "md"
    refine ⟨Ro.a, rfl, i_rec (hro.sub (sbf _)) (by decide +kernel), ?_⟩
    walk_at "md"
    refine p_written (hro.sub (sbf _)) (by omega) fun c hc => ?_
    refine ⟨c, _, rfl, mup_same, fun od uu => ?_⟩
    rw [mup_mup]
    have ncf : c ≠ f := (mup_none hc).1
    have hSc : S c = none := (mup_none hc).2
    have sbc : ∀ y z, Sub S (mup (mup S f y) c z) := fun y z => (sbf y).mup hSc
    refine ⟨c, od, uu, _, rfl, mup_same, fun k E' S' => (∃ w', E' = [some (.mu s), some (.mu R.a), some (.mu f), some (.im (.int x)), some (.mu Ro.a), w']) ∧ S' = mup (mup S f (.lst ((dNats (acc ++ ((keysA (o.own.take k)).filter (behindP r o)).map fun _ => x)).map .im))) c (.lck od uu (kvV o.own)), ⟨⟨_, rfl⟩, ?_⟩, ?_, ?_, ?_⟩
    · rw [List.take_zero]; simp [keysA]
    · rintro k E' S' _ ⟨_, rfl⟩; exact mup_same
    · rintro k m' E' S' hk ⟨kk, vv, hkk, rfl⟩ ⟨⟨w', rfl⟩, rfl⟩
      obtain ⟨p, ep, rfl, rfl⟩ := kvF_get hkk
      have hk' : k < o.own.length := (List.getElem?_eq_some_iff.mp ep).1
      have hnm : NameOk p.1 := oko.nm p (mem_last (List.mem_of_getElem? ep))
      unfold kD
      walk_at "md"
      refine m_meth0 ?_
      walk_at "md"
      refine ⟨R.a, rfl, i_rec (hr.sub (sbc _ _)) (by decide +kernel), ?_⟩
      walk_at "md"
      refine p_looked (hr.sub (sbc _ _)) (by have := hnm.2.2; omega) rok.hd ?_
      walk_at "md"
      refine ⟨fun h1 => ?_, fun h1 => ?_⟩
      · walk_at "md"
        refine f_stamp kf (hro.sub (sbc _ _)) ?_
        walk_at "md"
        refine f_start kf (hr.sub (sbc _ _)) ?_
        walk_at "md"
        refine ⟨fun h2 => ?_, fun h2 => ?_⟩
        · have h2' : r.start < o.stamp := by have := of_decide_eq_true h2; omega
          walk_at "md"
          refine m_bm ?_
          walk_at "md"
          have hfl : mup (mup S f (.lst ((dNats (acc ++ ((keysA (o.own.take k)).filter (behindP r o)).map fun _ => x)).map .im))) c (.lck od uu (kvV o.own)) f = some (.lst ((dNats (acc ++ ((keysA (o.own.take k)).filter (behindP r o)).map fun _ => x)).map .im)) := by rw [mup_ne (Ne.symm ncf), mup_same]
          refine ⟨tyL_M hfl, ?_⟩
          walk_at "md"
          refine m_app hfl (by
            rw [natsM_len, List.length_append, List.length_map]
            have := List.length_filter_le (behindP r o) (keysA (o.own.take k))
            simp only [keysA, List.length_map, List.length_take] at this ⊢
            omega) ?_
          refine ⟨⟨_, rfl⟩, ?_⟩
          rw [take_filter x ep, if_pos (by unfold behindP; rw [h1, decide_eq_true h2']; rfl), nats_snoc, mup_comm ncf, mup_mup, List.append_assoc]
        · have h2' : ¬ r.start < o.stamp := by have := of_decide_eq_false h2; omega
          walk_at "md"
          refine ⟨⟨_, rfl⟩, ?_⟩
          rw [take_filter x ep, if_neg (by unfold behindP; rw [decide_eq_false h2', Bool.and_false]; simp), List.append_nil]
      · walk_at "md"
        refine ⟨⟨_, rfl⟩, ?_⟩
        rw [take_filter x ep, if_neg (by unfold behindP; rw [h1, Bool.false_and]; simp), List.append_nil]
    · rintro E' S' ⟨⟨w', rfl⟩, rfl⟩
      refine ⟨⟨_, _, _, rfl⟩, ?_⟩
      have efin : (o.own.take (srcK c od uu (kvV o.own)).n) = o.own := by show o.own.take (kvF vM o.own).length = _; rw [kvF_len, List.take_length]
      rw [efin, take_flat ex, hacc]
      have : behindX M r x = ((keysA o.own).filter (behindP r o)).map fun _ => x := by unfold behindX; rw [ho]
      rw [this]
      exact Sub.rfl'.mup (by rw [mup_ne ncf]; exact hSc)
  · rintro E' S' ⟨⟨u, v, w', rfl⟩, hsub⟩
    have efin : (M.row.take (srcM A.aw ((dNats M.row).map .im)).n) = M.row := by show M.row.take ((dNats M.row).map MV.im).length = _; rw [natsM_len, List.take_length]
    rw [efin] at hsub
    walk_at "md"
    exact up_sub hsub (up (q f hf))
theorem rd_Shelf_ahead_of (kf : KF K) (h : sp_Shelf_ahead_of P w K vs H Q E) : t_Shelf_ahead_of P w K { nx := fun _ H' => Q .non H', rt := Q } (start ["self", "record", "found", "own", "number", "other", "name"] vs) H := by
  refine rd_N h fun G0 ms S mQ mX h => ?_
  obtain ⟨s, A, M, i, R, r, rfl, hA, ok, hR, hr, rok, q⟩ := h
  unfold t_Shelf_ahead_of bodyN
  walk_at "s0"
  walk_at "md"
  refine m_lstM ?_
  walk_at "md"
  refine ⟨by simp, fun f hf => ?_⟩
  have sbf : ∀ o, Sub S (mup S f o) := fun o => Sub.rfl'.mup hf
  have hrp := rok.puts
  have hro0 := rok.own
  walk_at "md"
  refine m_meth0 ?_
  walk_at "md"
  refine ⟨R.a, rfl, i_rec (hr.sub (sbf _)) (by decide +kernel), ?_⟩
  walk_at "md"
  refine p_written (hr.sub (sbf _)) (by omega) fun b hb => ?_
  have nbf : b ≠ f := (mup_none hb).1
  have hSb : S b = none := (mup_none hb).2
  have sb2 : ∀ y z, Sub S (mup (mup S f y) b z) := fun y z => (sbf y).mup hSb
  -- the state with the list found so far
  have app : ∀ y z u, mup (mup (mup S f y) b z) f u = mup (mup S f u) b z := fun y z u => by rw [mup_comm nbf, mup_mup]
  walk_at "md"
  refine n_for (i_list ?_)
  walk_at "md"
  refine f_row kf (hA.sub (sb2 _ _)) ?_
  refine .inr ⟨A.aw, _, rfl, (hA.sub (sb2 _ _)).w0, fun j E' S' => (∃ u v w', E' = [some (.mu s), some (.mu R.a), some (.mu f), some (.mu b), u, v, w']) ∧ Sub (mup (mup S f (.lst ((dNats ((M.row.take j).flatMap (aheadX M r))).map .im))) b (.dct (kvV r.own))) S', ⟨⟨none, none, none, rfl⟩, Sub.rfl'⟩, ?_, ?_, ?_⟩
  · rintro j E' S' _ ⟨_, hsub⟩; exact hsub _ _ (hA.sub (sb2 _ _)).w0
  · rintro j m E' S' hj em ⟨⟨u, v, w', rfl⟩, hsub⟩
    obtain ⟨x, ex, rfl⟩ := natsM_get em
    have hj' : j < M.row.length := (List.getElem?_eq_some_iff.mp ex).1
    have hx := ok.inr x (List.mem_of_getElem? ex)
    obtain ⟨o, ho⟩ : ∃ o, M.recs[x]? = some o := ⟨_, List.getElem?_eq_getElem hx⟩
    obtain ⟨Ro, hRo, hro⟩ := hA.rec_ ho
    have oko := ok.rc o (List.mem_of_getElem? ho)
    have hpo := oko.puts
    have hown := oko.own
    refine g_name ?_
    refine s_sub hsub ?_
    generalize hacc : (M.row.take j).flatMap (aheadX M r) = acc
    have hal : acc.length ≤ 3000 * 320 - 320 := by
      rw [← hacc]
      have h1 := flatMap_len (f := aheadX M r) (c := 320) (fun y => by
        unfold aheadX
        split
        · simp
        · next o' ho' =>
          rw [List.length_append, List.length_map, List.length_map]
          have h1 := List.length_filter_le (aheadP r o') (keysA o'.own)
          have h2 := List.length_filter_le o'.looked (keysA r.own)
          have := (ok.rc o' (List.mem_of_getElem? ho')).own
          simp only [keysA, List.length_map] at h1 h2 this ⊢
          omega) (M.row.take j)
      have h2 : (M.row.take j).length * 320 ≤ 2999 * 320 := Nat.mul_le_mul_right _ (by rw [List.length_take]; have := ok.row; omega)
      omega
    walk_at "md"
    refine f_recs kf (hA.sub (sb2 _ _)) ?_
    walk_at "md"
    refine m_ixM (m := .mu Ro.a) (hA.sub (sb2 _ _)).r0 (by rw [atI_nat, List.getElem?_map, hRo]; rfl) ?_
    walk_at "md"
    refine n_for (i_keys ?_)
    refine m_freeze ?_
    refine m_meth0 ?_
    walk_at "md"
    refine ⟨Ro.a, rfl, i_rec (hro.sub (sb2 _ _)) (by decide +kernel), ?_⟩
    walk_at "md"
    refine p_written (hro.sub (sb2 _ _)) (by omega) fun c hc => ?_
    refine ⟨c, _, rfl, mup_same, fun od uu => ?_⟩
    rw [mup_mup]
    have ncb : c ≠ b := (mup_none hc).1
    have ncf : c ≠ f := (mup_none (mup_none hc).2).1
    have hSc : S c = none := (mup_none (mup_none hc).2).2
    have sbc : ∀ y z t, Sub S (mup (mup (mup S f y) b z) c t) := fun y z t => (sb2 y z).mup hSc
    have app3 : ∀ y z t u, mup (mup (mup (mup S f y) b z) c t) f u = mup (mup (mup S f u) b z) c t := fun y z t u => by rw [mup_comm ncf, app]
    refine ⟨c, od, uu, _, rfl, mup_same, fun k E' S' => (∃ w', E' = [some (.mu s), some (.mu R.a), some (.mu f), some (.mu b), some (.im (.int x)), some (.mu Ro.a), w']) ∧ S' = mup (mup (mup S f (.lst ((dNats (acc ++ ((keysA (o.own.take k)).filter (aheadP r o)).map fun _ => x)).map .im))) b (.dct (kvV r.own))) c (.lck od uu (kvV o.own)), ⟨⟨_, rfl⟩, ?_⟩, ?_, ?_, ?_⟩
    · rw [List.take_zero]; simp [keysA]
    · rintro k E' S' _ ⟨_, rfl⟩; exact mup_same
    · rintro k m' E' S' hk ⟨kk, vv, hkk, rfl⟩ ⟨⟨w', rfl⟩, rfl⟩
      obtain ⟨p, ep, rfl, rfl⟩ := kvF_get hkk
      have hk' : k < o.own.length := (List.getElem?_eq_some_iff.mp ep).1
      have hnm : NameOk p.1 := oko.nm p (mem_last (List.mem_of_getElem? ep))
      have hfl : ∀ y, mup (mup (mup S f (.lst y)) b (.dct (kvV r.own))) c (.lck od uu (kvV o.own)) f = some (.lst y) := fun y => by rw [mup_ne (Ne.symm ncf), mup_ne (Ne.symm nbf), mup_same]
      have hbl : ∀ y, mup (mup (mup S f y) b (.dct (kvV r.own))) c (.lck od uu (kvV o.own)) b = some (.dct (kvV r.own)) := fun y => by rw [mup_ne (Ne.symm ncb), mup_same]
      have hlen : ((dNats (acc ++ ((keysA (o.own.take k)).filter (aheadP r o)).map fun _ => x)).map MV.im).length ≤ 1000000 := by
        rw [natsM_len, List.length_append, List.length_map]
        have := List.length_filter_le (aheadP r o) (keysA (o.own.take k))
        simp only [keysA, List.length_map, List.length_take] at this ⊢
        omega
      unfold kD
      walk_at "md"
      refine ⟨b, p.1, _, rfl, rfl, .d (hbl _), ?_⟩
      rw [lkM_kvF, getSome]
      have yes : aheadP r o p.1 = true → EvS K G0 (tDrop (tBM K "list" rAppend (tVar 2) (tCons (tVar 4) tNil))) ([some (.mu s), some (.mu R.a), some (.mu f), some (.mu b), some (.im (.int x)), some (.mu Ro.a), w'].set 6 (some (.im (.str p.1)))) (mup (mup (mup S f (.lst ((dNats (acc ++ ((keysA (o.own.take k)).filter (aheadP r o)).map fun _ => x)).map .im))) b (.dct (kvV r.own))) c (.lck od uu (kvV o.own)))
          ⟨fun E' S' => (∃ w', E' = [some (.mu s), some (.mu R.a), some (.mu f), some (.mu b), some (.im (.int x)), some (.mu Ro.a), w']) ∧ S' = mup (mup (mup S f (.lst ((dNats (acc ++ ((keysA (o.own.take (k + 1))).filter (aheadP r o)).map fun _ => x)).map .im))) b (.dct (kvV r.own))) c (.lck od uu (kvV o.own)), Up K mQ, fun _ _ => False, fun _ _ => False⟩ := fun hp => by
        walk_at "md"
        refine m_bm ?_
        walk_at "md"
        refine ⟨tyL_M (hfl _), ?_⟩
        walk_at "md"
        refine m_app (hfl _) hlen ?_
        refine ⟨⟨_, rfl⟩, ?_⟩
        rw [take_filter x ep, if_pos hp, nats_snoc, app3, List.append_assoc]
      have no : aheadP r o p.1 = false → (∃ w'', ([some (MV.mu s), some (.mu R.a), some (.mu f), some (.mu b), some (.im (.int x)), some (.mu Ro.a), w'].set 6 (some (.im (.str p.1)))) = [some (.mu s), some (.mu R.a), some (.mu f), some (.mu b), some (.im (.int x)), some (.mu Ro.a), w'']) ∧ mup (mup (mup S f (.lst ((dNats (acc ++ ((keysA (o.own.take k)).filter (aheadP r o)).map fun _ => x)).map .im))) b (.dct (kvV r.own))) c (.lck od uu (kvV o.own)) = mup (mup (mup S f (.lst ((dNats (acc ++ ((keysA (o.own.take (k + 1))).filter (aheadP r o)).map fun _ => x)).map .im))) b (.dct (kvV r.own))) c (.lck od uu (kvV o.own)) := fun hp => by
        refine ⟨⟨_, rfl⟩, ?_⟩
        rw [take_filter x ep, if_neg (by rw [hp]; simp), List.append_nil]
      refine m_bl2 ⟨fun h1 => ?_, fun h1 => ?_⟩
      · exact b_tt ((yes (by unfold aheadP; rw [h1, Bool.true_or])).mono (fun _ _ z => z) (fun _ _ z => z) (fun _ _ z => z.elim) fun _ _ z => z.elim)
      · walk_at "md"
        refine m_meth0 ?_
        walk_at "md"
        refine ⟨R.a, rfl, i_rec (hr.sub (sbc _ _ _)) (by decide +kernel), ?_⟩
        walk_at "md"
        refine p_looked (hr.sub (sbc _ _ _)) (by have := hnm.2.2; omega) rok.hd ?_
        walk_at "md"
        refine ⟨fun h2 => ?_, fun h2 => ?_⟩
        · walk_at "md"
          refine f_stamp kf (hro.sub (sbc _ _ _)) ?_
          walk_at "md"
          refine f_start kf (hr.sub (sbc _ _ _)) ?_
          walk_at "md"
          refine ⟨fun h3 => ?_, fun h3 => ?_⟩
          · have h3' : o.stamp ≤ r.start := by have := of_decide_eq_true h3; omega
            exact (yes (by unfold aheadP; rw [h1, h2, decide_eq_true h3']; rfl)).mono (fun _ _ z => z) (fun _ _ z => z) (fun _ _ z => z.elim) fun _ _ z => z.elim
          · have h3' : ¬ o.stamp ≤ r.start := by have := of_decide_eq_false h3; omega
            walk_at "md"
            exact no (by unfold aheadP; rw [h1, decide_eq_false h3', Bool.and_false]; rfl)
        · walk_at "md"
          exact no (by unfold aheadP; rw [h1, h2, Bool.false_and]; rfl)
    · rintro E' S' ⟨⟨w', rfl⟩, rfl⟩
      have efin : (o.own.take (srcK c od uu (kvV o.own)).n) = o.own := by show o.own.take (kvF vM o.own).length = _; rw [kvF_len, List.take_length]
      rw [efin]
      generalize hacc2 : acc ++ ((keysA o.own).filter (aheadP r o)).map (fun _ => x) = acc2
      have hal2 : acc2.length ≤ 3000 * 320 - 160 := by
        rw [← hacc2, List.length_append, List.length_map]
        have := List.length_filter_le (aheadP r o) (keysA o.own)
        simp only [keysA, List.length_map] at this ⊢
        omega
      -- the walk over one's own names
      refine s_sub (S1 := mup (mup S f (.lst ((dNats acc2).map .im))) b (.dct (kvV r.own))) (Sub.rfl'.mup (by rw [mup_ne ncb, mup_ne ncf]; exact hSc)) ?_
      refine n_lock mup_same fun od2 uu2 => ?_
      rw [mup_mup]
      refine n_for (i_keys ?_)
      walk_at "md"
      refine ⟨b, od2, uu2, _, rfl, mup_same, fun k E' S' => (∃ w', E' = [some (.mu s), some (.mu R.a), some (.mu f), some (.mu b), some (.im (.int x)), some (.mu Ro.a), w']) ∧ S' = mup (mup S f (.lst ((dNats (acc2 ++ ((keysA (r.own.take k)).filter o.looked).map fun _ => x)).map .im))) b (.lck od2 uu2 (kvV r.own)), ⟨⟨_, rfl⟩, ?_⟩, ?_, ?_, ?_⟩
      · rw [List.take_zero]; simp [keysA]
      · rintro k E' S' _ ⟨_, rfl⟩; exact mup_same
      · rintro k m' E' S' hk ⟨kk, vv, hkk, rfl⟩ ⟨⟨w', rfl⟩, rfl⟩
        obtain ⟨p, ep, rfl, rfl⟩ := kvF_get hkk
        have hk' : k < r.own.length := (List.getElem?_eq_some_iff.mp ep).1
        have hnm : NameOk p.1 := rok.nm p (mem_last (List.mem_of_getElem? ep))
        have hfl : ∀ y, mup (mup S f (.lst y)) b (.lck od2 uu2 (kvV r.own)) f = some (.lst y) := fun y => by rw [mup_ne (Ne.symm nbf), mup_same]
        unfold kD
        walk_at "md"
        refine m_meth0 ?_
        walk_at "md"
        refine ⟨Ro.a, rfl, i_rec (hro.sub (sb2 _ _)) (by decide +kernel), ?_⟩
        walk_at "md"
        refine p_looked (hro.sub (sb2 _ _)) (by have := hnm.2.2; omega) oko.hd ?_
        walk_at "md"
        refine ⟨fun h2 => ?_, fun h2 => ?_⟩
        · walk_at "md"
          refine m_bm ?_
          walk_at "md"
          refine ⟨tyL_M (hfl _), ?_⟩
          walk_at "md"
          refine m_app (hfl _) (by
            rw [natsM_len, List.length_append, List.length_map]
            have := List.length_filter_le o.looked (keysA (r.own.take k))
            simp only [keysA, List.length_map, List.length_take] at this ⊢
            omega) ?_
          refine ⟨⟨_, rfl⟩, ?_⟩
          rw [take_filter x ep, if_pos h2, nats_snoc, app, List.append_assoc]
        · walk_at "md"
          refine ⟨⟨_, rfl⟩, ?_⟩
          rw [take_filter x ep, if_neg (by rw [h2]; simp), List.append_nil]
      · rintro E' S' ⟨⟨w', rfl⟩, rfl⟩
        refine ⟨mup_same, ?_⟩
        rw [mup_mup]
        have efin : (r.own.take (srcK b od2 uu2 (kvV r.own)).n) = r.own := by show r.own.take (kvF vM r.own).length = _; rw [kvF_len, List.take_length]
        rw [efin]
        refine ⟨⟨_, _, _, rfl⟩, ?_⟩
        rw [take_flat ex, hacc]
        have : aheadX M r x = ((keysA o.own).filter (aheadP r o)).map (fun _ => x) ++ ((keysA r.own).filter o.looked).map fun _ => x := by unfold aheadX; rw [ho]
        rw [this, ← List.append_assoc, hacc2]
        exact Sub.rfl'
  · rintro E' S' ⟨⟨u, v, w', rfl⟩, hsub⟩
    have efin : (M.row.take (srcM A.aw ((dNats M.row).map .im)).n) = M.row := by show M.row.take ((dNats M.row).map MV.im).length = _; rw [natsM_len, List.take_length]
    rw [efin] at hsub
    walk_at "md"
    exact up_sub ((Sub.rfl'.mup (by rw [mup_ne nbf]; exact hSb)).trans hsub) (up (q f hf))
end
end Kr
set_option maxHeartbeats 1000000
namespace Kr
open PySem PySem.Spec L2
/-! ### keep -/
def addVer (st : Nat) (rows : List (Str × Vers)) (p : Str × Val) : List (Str × Vers) := putA rows p.1 ((getA rows p.1).getD [] ++ [(st, p.2)])
def ShM.keepAt (M : ShM) (i : Nat) (r : RecM) (p : Nat) : ShM :=
  ⟨M.recs.set i { r with stamp := M.row.length + 1, mood := "kept" }, M.row.take p ++ [i] ++ M.row.drop p, r.own.foldl (addVer (M.row.length + 1)) M.rows⟩
def ShM.placeOf (M : ShM) (r : RecM) : Option Nat := placeIn M.row (M.aheadOf r) (M.behindOf r)
def mp_Shelf_keep (K : PySem.W.Frag) : Mp := fun ms S Q X => ∃ (s : Addr) (M : ShM) (d : D), ms = [.mu s, .im d] ∧ S s = some (shO K M) ∧ ShOk M ∧ okIn d ∧
  match M.going d with
  | .error c => X (exc K c) S
  | .ok i => ∀ r, M.recs[i]? = some r → r.mood = "open" → match M.placeOf r with
    | none => X (exc K "Crossed") (mup S s (shO K (M.dropAt i r)))
    | some p => Q (.im (.int p)) (mup S s (shO K (M.keepAt i r p)))
abbrev sp_Shelf_keep (_ : Program) (_ : World) (K : PySem.W.Frag) : Sp := lift K (mp_Shelf_keep K)
section
variable {K : PySem.W.Frag} {S : MS} {s : Addr} {A : ShA} {M : ShM}
theorem ShAt.setW (h : ShAt K S s A M) (row : List Nat) : ShAt K (mup S A.aw (.lst ((dNats row).map .im))) s A { M with row := row } := by
  have out : ∀ {b : Addr} {o : MO} {t : Tag}, A.T b = some t → t ≠ .aw → S b = some o → mup S A.aw (.lst ((dNats row).map .im)) b = some o := fun f g e => by rw [mup_ne (tag_ne f h.tw g)]; exact e
  obtain ⟨dx, e⟩ := h.s0
  refine ⟨h.ts, h.tr, h.tw, h.td, h.tv, h.tR, ⟨dx, out h.ts (by intro z; cases z) e⟩, out h.tr (by intro z; cases z) h.r0, mup_same, out h.td (by intro z; cases z) h.d0, h.lr, h.lv, fun j R r e f => ?_, fun j a p e f => out (h.tv j a e) (by intro z; cases z) (h.vr j a p e f)⟩
  have q := h.rc j R r e f
  obtain ⟨t1, t2, t3, t4, t5⟩ := h.tR j R e
  obtain ⟨dx2, e2⟩ := q.a
  exact ⟨⟨dx2, out t1 (by intro z; cases z) e2⟩, out t2 (by intro z; cases z) q.d, out t3 (by intro z; cases z) q.p, out t4 (by intro z; cases z) q.s, out t5 (by intro z; cases z) q.h⟩
theorem putA_new {α : Type} {d : List (Str × α)} {n : Str} {v : α} (h : getA d n = none) : putA d n v = d ++ [(n, v)] := by
  unfold putA
  rw [if_neg (by rw [← getA_isSome, h]; simp)]
/-- a name's first version's list -/
theorem ShAt.newVer (h : ShAt K S s A M) {n : Str} {q : Addr} (hn : getA M.rows n = none) (hq : S q = none) :
    ShAt K (mup (mup S q (.lst [])) A.ad (.dct (kvF MV.mu ((keysA (M.rows ++ [(n, [])])).zip (A.vers ++ [q]))))) s { A with vers := A.vers ++ [q], T := fun b => if b = q then some (.ver A.vers.length) else A.T b } { M with rows := M.rows ++ [(n, [])] } := by
  have ne : ∀ {b : Addr} {o : MO}, S b = some o → b ≠ q := fun e => by rintro rfl; rw [hq] at e; cases e
  have T' : ∀ {b : Addr} {o : MO} {t : Tag}, S b = some o → A.T b = some t → (fun b => if b = q then some (Tag.ver A.vers.length) else A.T b) b = some t := fun e f => by dsimp only; rw [if_neg (ne e)]; exact f
  have out : ∀ {b : Addr} {o x : MO} {t : Tag}, A.T b = some t → t ≠ .ad → S b = some o → mup (mup S q (.lst [])) A.ad x b = some o := fun f g e => by rw [mup_ne (tag_ne f h.td g), mup_ne (ne e)]; exact e
  have hget : ∀ {β : Type} (xs : List β) (y : β) (j : Nat) (a : β), (xs ++ [y])[j]? = some a → xs[j]? = some a ∨ (j = xs.length ∧ a = y) := fun xs y j a e => by
    by_cases hj : j < xs.length
    · rw [List.getElem?_append_left hj] at e; exact .inl e
    · rw [List.getElem?_append_right (by omega)] at e
      have : j - xs.length = 0 := by
        by_cases z : j - xs.length = 0
        · exact z
        · rw [List.getElem?_eq_none (by simp; omega)] at e; cases e
      rw [this] at e
      simp at e
      exact .inr ⟨by omega, e.symm⟩
  obtain ⟨dxs, es⟩ := h.s0
  have qad : q ≠ A.ad := Ne.symm (ne h.d0)
  refine ⟨T' es h.ts, T' h.r0 h.tr, T' h.w0 h.tw, T' h.d0 h.td, fun j a e => ?_, fun j R e => ?_, ⟨dxs, out h.ts (by intro z; cases z) es⟩, out h.tr (by intro z; cases z) h.r0, out h.tw (by intro z; cases z) h.w0, mup_same, h.lr, ?_, fun j R r e f => ?_, fun j a p e f => ?_⟩
  · rcases hget _ _ _ _ e with e | ⟨rfl, rfl⟩
    · have hj : j < M.rows.length := by rw [← h.lv]; exact (List.getElem?_eq_some_iff.mp e).1
      exact T' (h.vr j a _ e (List.getElem?_eq_getElem hj)) (h.tv j a e)
    · dsimp only; rw [if_pos rfl]
  · obtain ⟨t1, t2, t3, t4, t5⟩ := h.tR j R e
    have hj : j < M.recs.length := by rw [← h.lr]; exact (List.getElem?_eq_some_iff.mp e).1
    have q := h.rc j R _ e (List.getElem?_eq_getElem hj)
    obtain ⟨dx2, e2⟩ := q.a
    exact ⟨T' e2 t1, T' q.d t2, T' q.p t3, T' q.s t4, T' q.h t5⟩
  · show (A.vers ++ [q]).length = (M.rows ++ [(n, [])]).length
    rw [List.length_append, List.length_append, h.lv]; rfl
  · have q := h.rc j R r e f
    obtain ⟨t1, t2, t3, t4, t5⟩ := h.tR j R e
    obtain ⟨dx2, e2⟩ := q.a
    exact ⟨⟨dx2, out t1 (by intro z; cases z) e2⟩, out t2 (by intro z; cases z) q.d, out t3 (by intro z; cases z) q.p, out t4 (by intro z; cases z) q.s, out t5 (by intro z; cases z) q.h⟩
  · rcases hget _ _ _ _ e with e | ⟨rfl, rfl⟩
    · rcases hget _ _ _ _ f with f | ⟨rfl, rfl⟩
      · exact out (h.tv j a e) (by intro z; cases z) (h.vr j a p e f)
      · have := (List.getElem?_eq_some_iff.mp e).1
        rw [h.lv] at this; exact absurd this (Nat.lt_irrefl _)
    · rcases hget _ _ _ _ f with f | ⟨_, rfl⟩
      · have := (List.getElem?_eq_some_iff.mp f).1
        rw [← h.lv] at this; exact absurd this (Nat.lt_irrefl _)
      · rw [mup_ne qad, mup_same]; rfl
theorem mapSet_at {rows : List (Str × Vers)} {n : Str} {v : Vers} (hd : (keysA rows).Nodup) {j k : Nat} {p q : Str × Vers} (hj : rows[j]? = some p) (hp : p.1 = n) (hk : (rows.map fun q => if q.1 = n then (q.1, v) else q)[k]? = some q) : (k = j ∧ q = (n, v)) ∨ (k ≠ j ∧ rows[k]? = some q) := by
  rw [List.getElem?_map] at hk
  cases e : rows[k]? with
  | none => rw [e] at hk; cases hk
  | some r =>
    rw [e] at hk
    simp only [Option.map_some, Option.some.injEq] at hk
    by_cases kj : k = j
    · subst kj
      rw [hj] at e; cases e
      rw [if_pos hp] at hk
      exact .inl ⟨rfl, by rw [← hk, hp]⟩
    · have : ¬ r.1 = n := fun z => by
        have h1 : (keysA rows)[k]? = some n := by unfold keysA; rw [List.getElem?_map, e]; simp [z]
        have h2 : (keysA rows)[j]? = some n := by unfold keysA; rw [List.getElem?_map, hj]; simp [hp]
        obtain ⟨hk1, e1⟩ := List.getElem?_eq_some_iff.mp h1
        obtain ⟨hj1, e2⟩ := List.getElem?_eq_some_iff.mp h2
        have hpw := List.pairwise_iff_getElem.mp hd
        rcases Nat.lt_or_gt_of_ne kj with l | l
        · exact hpw k j hk1 hj1 l (e1.trans e2.symm)
        · exact hpw j k hj1 hk1 l (e2.trans e1.symm)
      rw [if_neg this] at hk
      exact .inr ⟨kj, by rw [hk]⟩
/-- a name's list of versions is changed -/
theorem ShAt.setVer (h : ShAt K S s A M) (hd : (keysA M.rows).Nodup) {n : Str} {j : Nat} {a : Addr} {p : Str × Vers} (ha : A.vers[j]? = some a) (hp : M.rows[j]? = some p) (hpn : p.1 = n) (v : Vers) :
    ShAt K (mup S a (.lst ((versD v).map .im))) s A { M with rows := putA M.rows n v } := by
  have out : ∀ {b : Addr} {o x : MO} {t : Tag}, A.T b = some t → t ≠ .ver j → S b = some o → mup S a x b = some o := fun f g e => by rw [mup_ne (tag_ne f (h.tv j a ha) g)]; exact e
  have hput : putA M.rows n v = M.rows.map fun q => if q.1 = n then (q.1, v) else q := by
    unfold putA
    rw [if_pos]
    rw [List.any_eq_true]
    exact ⟨p, List.mem_of_getElem? hp, by simp [hpn]⟩
  have hkeys : keysA (putA M.rows n v) = keysA M.rows := by rw [hput, keys_mapSet]
  obtain ⟨dx, e⟩ := h.s0
  refine ⟨h.ts, h.tr, h.tw, h.td, h.tv, h.tR, ⟨dx, out h.ts (by intro z; cases z) e⟩, out h.tr (by intro z; cases z) h.r0, out h.tw (by intro z; cases z) h.w0, ?_, h.lr, ?_, fun j R r e f => ?_, fun k b q e f => ?_⟩
  · show mup S a _ A.ad = some (.dct (kvF MV.mu ((keysA (putA M.rows n v)).zip A.vers)))
    rw [hkeys]; exact out h.td (by intro z; cases z) h.d0
  · show A.vers.length = (putA M.rows n v).length
    rw [hput, List.length_map]; exact h.lv
  · have q := h.rc j R r e f
    obtain ⟨t1, t2, t3, t4, t5⟩ := h.tR j R e
    obtain ⟨dx2, e2⟩ := q.a
    exact ⟨⟨dx2, out t1 (by intro z; cases z) e2⟩, out t2 (by intro z; cases z) q.d, out t3 (by intro z; cases z) q.p, out t4 (by intro z; cases z) q.s, out t5 (by intro z; cases z) q.h⟩
  · have f' : (putA M.rows n v)[k]? = some q := f
    rw [hput] at f'
    rcases mapSet_at hd hp hpn f' with ⟨rfl, rfl⟩ | ⟨kj, f'⟩
    · rw [ha] at e; cases e; exact mup_same
    · exact out (h.tv k b e) (by intro z; cases z; exact kj rfl) (h.vr k b q e f')
end
theorem nodup_add {rows : List (Str × Vers)} {st : Nat} {p : Str × Val} (h : (keysA rows).Nodup) : (keysA (addVer st rows p)).Nodup := nodup_put h
theorem nodup_adds {st : Nat} : ∀ {ps : Puts} {rows : List (Str × Vers)}, (keysA rows).Nodup → (keysA (ps.foldl (addVer st) rows)).Nodup
  | [], _, h => h
  | _ :: ps, _, h => nodup_adds (ps := ps) (nodup_add h)
theorem take_fold {st : Nat} {ps : Puts} {rows : List (Str × Vers)} {i : Nat} {p : Str × Val} (h : ps[i]? = some p) : (ps.take (i + 1)).foldl (addVer st) rows = addVer st ((ps.take i).foldl (addVer st) rows) p := by
  rw [List.take_succ, h, List.foldl_append]; rfl
theorem vers_snoc (v : Vers) (p : Nat × Val) : ((versD v).map MV.im) ++ [.im (verD p)] = (versD (v ++ [p])).map MV.im := by unfold versD; rw [List.map_append, List.map_append]; rfl
theorem vers_le {st k : Nat} : ∀ (ps : Puts) (rows : List (Str × Vers)), (∀ p ∈ rows, p.2.length ≤ k) → ∀ p ∈ ps.foldl (addVer st) rows, p.2.length ≤ k + ps.length
  | [], _, h, p, hp => h p hp
  | q :: ps, rows, h, p, hp => by
    have := vers_le (k := k + 1) ps (addVer st rows q) (fun p hp => by
      rcases mem_put hp with hp | rfl
      · exact Nat.le_succ_of_le (h p hp)
      · dsimp only
        rw [List.length_append]
        cases e : getA rows q.1 with
        | none => simp
        | some v => have := h _ (getA_in e); simp only [Option.getD_some, List.length_cons, List.length_nil]; exact Nat.add_le_add_right this 1) p hp
    rw [List.length_cons]; omega
section
variable {P : Program} {w : World} {K : PySem.W.Frag} {vs : List V} {H : Hp} {Q : VK} {E : XK}
theorem len_Shelf_keep (h : sp_Shelf_keep P w K vs H Q E) : vs.length = 2 := lift_len (by rintro ms S mQ mX ⟨_, _, _, rfl, _⟩; rfl) h
def t_Shelf_keep_j1 (P : Program) (w : World) (K : PySem.W.Frag) (E : XK) : TS :=
  (tDrop (tBM K "list" rAppend (tDGet (tFld K (tVar 0) "rows") (tVar 4)) (tCons (tTup (tCons (tFld K (tVar 2) "stamp") (tCons (tVar 5) tNil))) tNil)))
def t_Shelf_keep (P : Program) (w : World) (K : PySem.W.Frag) (E : XK) : TS :=
  (tSeq (tAsg (tMeth (He.ga K "Shelf") "going" (sp_Shelf_going P w K) [] E (tVar 0) (tCons (tVar 1) tNil)) (gName 2)) (tSeq (tAsg (tCall (sp_place_in P w K) [] E0 (tCons (tFld K (tVar 0) "row") (tCons (tMeth (He.ga K "Shelf") "ahead_of" (sp_Shelf_ahead_of P w K) [] E0 (tVar 0) (tCons (tVar 2) tNil)) (tCons (tMeth (He.ga K "Shelf") "behind" (sp_Shelf_behind P w K) [] E0 (tVar 0) (tCons (tVar 2) tNil)) tNil)))) (gName 3)) (tSeq (tIfS (tTest (tOp r_isN (tVar 3) (tC .non))) (tSeq (sFld K (tVar 2) (tC (.str "dropped")) "mood") (tRaise E (.ref (He.ga K "Crossed")))) tNext) (tSeq (tDrop (tBM K "list" r_insert (tFld K (tVar 0) "row") (tCons (tVar 3) (tCons (tVar 1) tNil)))) (tSeq (sFld K (tVar 2) (tC (.str "kept")) "mood") (tSeq (sFld K (tVar 2) (tCB (c_len K) (tCons (tFld K (tVar 0) "row") tNil)) "stamp") (tSeq (tFor (iItems (tFreeze (tMeth (He.ga K "Record") "written" (sp_Record_written P w K) [] E0 (tVar 2) tNil))) (gTup K 2 (gCons (gName 4) (gCons (gName 5) gNil))) (tSeq (tIfS (tB (tDNotIn (tVar 4) (tFld K (tVar 0) "rows"))) (sDPut (tFld K (tVar 0) "rows") (tVar 4) (tLst tNil)) tNext) (t_Shelf_keep_j1 P w K E))) (tRet (tVar 3)))))))))

theorem rd_Shelf_keep (kf : KF K) (h : sp_Shelf_keep P w K vs H Q E) : t_Shelf_keep P w K E { nx := fun _ H' => Q .non H', rt := Q } (start ["self", "number", "record", "place", "name", "told"] vs) H := by
  refine rd_X h fun G0 Ex ms S mQ mX hX h => ?_
  obtain ⟨s, M, d, rfl, hs, ok, hd, q⟩ := h
  refine sh_open hs fun S1 A hA dj => ?_
  have hA' : ShAt K (ov (mer S s) S1) s A M := hA.sub sub_ov
  unfold t_Shelf_keep bodyN
  walk_at "s0"
  walk_at "md"
  refine m_meth hX ?_
  walk_at "md"
  refine ⟨s, rfl, i_sh hA' (by decide +kernel), ?_⟩
  walk_at "md"
  refine ⟨s, A, M, d, rfl, hA', hd, ?_⟩
  cases hg : M.going d with
  | error c => rw [hg] at q; exact sh_sameX hs hA dj q
  | ok i =>
    rw [hg] at q
    intro R r hR hr hAt ho
    have q := q r hr ho
    have hr1 := hA.rc i R r hR hr
    have hi := (List.getElem?_eq_some_iff.mp hr).1
    have rok := ok.rc r (List.mem_of_getElem? hr)
    have hpu := rok.puts
    have hown := rok.own
    obtain ⟨_, rfl⟩ := going_ok hg
    walk_at "md"
    refine f_row kf hA' ?_
    walk_at "md"
    refine m_meth0 ?_
    walk_at "md"
    refine ⟨s, rfl, i_sh hA' (by decide +kernel), ?_⟩
    walk_at "md"
    refine ⟨s, A, M, i, R, r, rfl, hA', ok, hR, hAt, rok, fun f1 hf1 => ?_⟩
    obtain ⟨hA1, dj1, _⟩ := hA.more (o := .lst ((dNats (M.aheadOf r)).map .im)) dj hf1
    rw [ov_up]
    walk_at "md"
    refine m_meth0 ?_
    walk_at "md"
    refine ⟨s, rfl, i_sh (hA1.sub sub_ov) (by decide +kernel), ?_⟩
    walk_at "md"
    refine ⟨s, A, M, i, R, r, rfl, hA1.sub sub_ov, ok, hR, (hA1.rc i R r hR hr).sub sub_ov, rok, fun f2 hf2 => ?_⟩
    obtain ⟨hA2, dj2, _⟩ := hA1.more (o := .lst ((dNats (M.behindOf r)).map .im)) dj1 hf2
    have hg1 : mup (ov (mer S s) (mup S1 f1 (.lst ((dNats (M.aheadOf r)).map .im)))) f2 (.lst ((dNats (M.behindOf r)).map .im)) f1 = some (.lst ((dNats (M.aheadOf r)).map .im)) := by
      rw [mup_ne (by rintro rfl; rw [ov_in mup_same] at hf2; cases hf2), ov_in mup_same]
    walk_at "md"
    refine ⟨_, _, _, M.row, M.aheadOf r, M.behindOf r, rfl, ?_, .mu hg1, .mu mup_same, by have := ok.row; omega, ?_⟩
    · rw [ov_up]; exact .mu (hA2.sub sub_ov).w0
    rw [ov_up]
    generalize mup (mup S1 f1 (.lst ((dNats (M.aheadOf r)).map .im))) f2 (.lst ((dNats (M.behindOf r)).map .im)) = S2 at hA2 dj2 ⊢
    have at2 := hA2.rc i R r hR hr
    obtain ⟨dx, hra⟩ := at2.a
    show EvS K G0 _ _ _ _
    unfold ShM.placeOf at q
    cases hpl : placeIn M.row (M.aheadOf r) (M.behindOf r) with
    | none =>
      rw [hpl] at q
      unfold plM
      walk_at "md"
      refine ⟨fun _ => ?_, fun h => (nomatch h)⟩
      walk_at "md"
      refine ⟨R.a, _, dx, _, rfl, ov_in hra, kf.cR, kf.r3, by simp [recF], ?_⟩
      rw [show putFM "mood" (.im (.str "dropped")) (recF r.start r.stamp r.mood R.d R.p R.s R.h) = recF r.start r.stamp "dropped" R.d R.p R.s R.h from rfl, ov_up]
      exact m_raise hX (sh_upX (hA2.setA hR at2 dx r.start r.stamp "dropped") (dj2.old hra) q)
    | some p =>
      rw [hpl] at q
      have hp : p ≤ M.row.length := by
        unfold placeIn at hpl
        dsimp only at hpl
        split at hpl
        · cases hpl; exact List.findIdx_le_length
        · cases hpl
      unfold plM
      dsimp only
      walk_at "md"
      refine ⟨fun h => (nomatch h), fun _ => ?_⟩
      walk_at "md"
      refine m_bm ?_
      walk_at "md"
      refine f_row kf (hA2.sub sub_ov) ?_
      refine ⟨tyL_M (ov_in hA2.w0), ?_⟩
      walk_at "md"
      have hrow := ok.row
      refine m_insertL (ov_in hA2.w0) (by rw [natsM_len]; omega) (by omega) (by omega) ?_
      rw [Int.toNat_natCast, ov_up, ← List.map_take, ← List.map_drop, show (dNats M.row).drop p = dNats (M.row.drop p) by unfold dNats dInts; simp only [List.map_drop], nats_take,
        show (dNats (M.row.take p)).map MV.im ++ [MV.im (.int (i : Nat))] ++ (dNats (M.row.drop p)).map MV.im = (dNats (M.row.take p ++ [i] ++ M.row.drop p)).map MV.im by rw [nats_snoc, nats_app]]
      have hA3 := hA2.setW (M.row.take p ++ [i] ++ M.row.drop p)
      have dj3 : Dj (mer S s) (mup S2 A.aw (.lst ((dNats (M.row.take p ++ [i] ++ M.row.drop p)).map .im))) := dj2.old hA2.w0
      have hl3 : (M.row.take p ++ [i] ++ M.row.drop p).length = M.row.length + 1 := by simp; omega
      have at3 := hA3.rc i R r hR hr
      obtain ⟨dx3, hra3⟩ := at3.a
      walk_at "md"
      refine ⟨R.a, _, dx3, _, rfl, ov_in hra3, kf.cR, kf.r3, by simp [recF], ?_⟩
      rw [show putFM "mood" (.im (.str "kept")) (recF r.start r.stamp r.mood R.d R.p R.s R.h) = recF r.start r.stamp "kept" R.d R.p R.s R.h from rfl, ov_up]
      have hA4 := hA3.setA hR at3 dx3 r.start r.stamp "kept"
      have dj4 := dj3.old (o := .ins (He.ga K "Record") dx3 (recF r.start r.stamp "kept" R.d R.p R.s R.h)) hra3
      generalize mup (mup S2 A.aw (.lst ((dNats (M.row.take p ++ [i] ++ M.row.drop p)).map .im))) R.a (.ins (He.ga K "Record") dx3 (recF r.start r.stamp "kept" R.d R.p R.s R.h)) = S4 at hA4 dj4 ⊢
      have at4 := hA4.rc i R _ hR (setRec_get hi)
      obtain ⟨dx4, hra4⟩ := at4.a
      walk_at "md"
      refine f_row kf (hA4.sub sub_ov) ?_
      walk_at "md"
      refine m_lenM (ov_in hA4.w0) ?_
      rw [natsM_len]
      walk_at "md"
      refine ⟨R.a, _, dx4, _, rfl, ov_in hra4, kf.cR, kf.r2, by simp [recF], ?_⟩
      have hl4 : ((ShM.setRec { M with row := M.row.take p ++ [i] ++ M.row.drop p } i { r with start := r.start, stamp := r.stamp, mood := "kept" }).row.length) = M.row.length + 1 := hl3
      rw [hl4, show putFM "stamp" (.im (.int ((M.row.length + 1 : Nat) : Int))) (recF r.start r.stamp "kept" R.d R.p R.s R.h) = recF r.start (M.row.length + 1) "kept" R.d R.p R.s R.h from rfl, ov_up]
      have hA5 := hA4.setA hR at4 dx4 r.start (M.row.length + 1) "kept"
      have dj5 := dj4.old (o := .ins (He.ga K "Record") dx4 (recF r.start (M.row.length + 1) "kept" R.d R.p R.s R.h)) hra4
      rw [setRec_setRec] at hA5
      generalize mup S4 R.a (.ins (He.ga K "Record") dx4 (recF r.start (M.row.length + 1) "kept" R.d R.p R.s R.h)) = S5 at hA5 dj5 ⊢
      generalize hM5 : ShM.setRec { M with row := M.row.take p ++ [i] ++ M.row.drop p } i { r with start := r.start, stamp := M.row.length + 1, mood := "kept" } = M5 at hA5
      have hr5 : M5.recs[i]? = some { r with start := r.start, stamp := M.row.length + 1, mood := "kept" } := by rw [← hM5]; exact setRec_get hi
      have hrows5 : M5.rows = M.rows := by rw [← hM5]; rfl
      have at5 := hA5.rc i R _ hR hr5
      walk_at "md"
      refine n_forD ?_
      refine m_freeze ?_
      refine m_meth0 ?_
      walk_at "md"
      refine ⟨R.a, rfl, i_rec (at5.sub sub_ov) (by decide +kernel), ?_⟩
      walk_at "md"
      refine p_written (at5.sub sub_ov) (by dsimp only; omega) fun c hc => ?_
      refine ⟨c, _, rfl, mup_same, fun od uu => ?_⟩
      rw [mup_mup, ov_up]
      obtain ⟨hA6, dj6, _⟩ := hA5.more (o := .lck od uu (kvV (RecM.own { r with start := r.start, stamp := M.row.length + 1, mood := "kept" }))) dj5 hc
      have hownE : RecM.own { r with start := r.start, stamp := M.row.length + 1, mood := "kept" } = r.own := rfl
      rw [hownE] at hA6 dj6 ⊢
      refine ⟨c, od, uu, _, rfl, ov_in mup_same, fun k E' S' => ∃ A' S6, S' = ov (mer S s) S6 ∧ Dj (mer S s) S6 ∧ ShAt K S6 s A' { M5 with rows := (r.own.take k).foldl (addVer (M.row.length + 1)) M.rows } ∧ S6 c = some (.lck od uu (kvV r.own)) ∧ A'.recs[i]? = some R ∧ ∃ u v, E' = [some (.mu s), some (.im (.int i)), some (.mu R.a), some (.im (.int p)), u, v], ⟨A, _, rfl, dj6, ?_, mup_same, hR, none, none, rfl⟩, ?_, ?_, ?_⟩
      · rw [List.take_zero]
        show ShAt K _ s A { M5 with rows := M.rows }
        rw [← hrows5]; exact hA6
      · rintro k E' S' _ ⟨A', S6, rfl, _, _, hc6, _⟩; exact ov_in hc6
      · rintro k kk x E' S' hk hk2 ⟨A', S6, rfl, dj7, hA7, hc6, hR7, u, v, rfl⟩
        obtain ⟨⟨n, tv⟩, ep, rfl, rfl⟩ := kvF_get hk
        rw [kvF_len] at hk2
        generalize hrows : (r.own.take k).foldl (addVer (M.row.length + 1)) M.rows = rows at hA7
        have hnd : (keysA rows).Nodup := by rw [← hrows]; exact nodup_adds ok.nd
        have hvl : ∀ p ∈ rows, p.2.length ≤ 50000 + 160 := fun p hp => by
          rw [← hrows] at hp
          have := vers_le (r.own.take k) M.rows ok.vr p hp
          rw [List.length_take] at this; omega
        have hrl : rows.length ≤ 2000 + 160 := by
          have hh : ∀ (ps : Puts) (rows : List (Str × Vers)), (ps.foldl (addVer (M.row.length + 1)) rows).length ≤ rows.length + ps.length := by
            intro ps
            induction ps with
            | nil => intro rows; exact Nat.le_refl _
            | cons p ps ih => intro rows; have h1 := ih (addVer (M.row.length + 1) rows p); have h2 := length_put (d := rows) (n := p.1) (v := (getA rows p.1).getD [] ++ [(M.row.length + 1, p.2)]); rw [List.foldl_cons, List.length_cons]; unfold addVer at *; omega
          rw [← hrows]
          have := hh (r.own.take k) M.rows
          rw [List.length_take] at this
          have := ok.rows; omega
        have fin : ∀ A' S6 rows1, Dj (mer S s) S6 → ShAt K S6 s A' { M5 with rows := rows1 } → S6 c = some (.lck od uu (kvV r.own)) → A'.recs[i]? = some R → (keysA rows1).Nodup → (∃ vv, getA rows1 n = some vv ∧ vv = (getA rows n).getD []) → (putA rows1 n ((getA rows n).getD [] ++ [(M.row.length + 1, tv)]) = addVer (M.row.length + 1) rows (n, tv)) → (∀ p ∈ rows1, p.2.length ≤ 50000 + 160) →
            EvS K G0 (t_Shelf_keep_j1 P w K Ex) [some (.mu s), some (.im (.int i)), some (.mu R.a), some (.im (.int p)), some (.im (.str n)), some (vM tv)] (ov (mer S s) S6)
              ⟨fun E' S' => ∃ A' S6, S' = ov (mer S s) S6 ∧ Dj (mer S s) S6 ∧ ShAt K S6 s A' { M5 with rows := (r.own.take (k + 1)).foldl (addVer (M.row.length + 1)) M.rows } ∧ S6 c = some (.lck od uu (kvV r.own)) ∧ A'.recs[i]? = some R ∧ ∃ u v, E' = [some (.mu s), some (.im (.int i)), some (.mu R.a), some (.im (.int p)), u, v], Up K mQ, fun _ _ => False, fun _ _ => False⟩ := fun A' S6 rows1 djx hAx hcx hRx hndx ⟨vv, hvv, hve⟩ hput hvl => by
          unfold t_Shelf_keep_j1
          have atx := hAx.rc i R _ hRx hr5
          rcases zip_get (rows := rows1) (n := n) hAx.lv with ⟨_, h2⟩ | ⟨j0, a0, p0, h1, h2, h3, h4, h5⟩
          · rw [h2] at hvv; cases hvv
          have hva := hAx.vr j0 a0 p0 h2 h3
          rw [hvv] at h5
          have hp0 : vv = p0.2 := Option.some.inj h5
          walk_at "md"
          refine m_bm ?_
          walk_at "md"
          refine f_rows kf (hAx.sub sub_ov) ?_
          walk_at "md"
          refine ⟨_, n, _, .mu a0, rfl, rfl, .d (hAx.sub sub_ov).d0, by rw [lkM_kvF, h1]; rfl, ?_⟩
          refine ⟨tyL_M (ov_in hva), ?_⟩
          walk_at "md"
          refine m_tupI ?_
          walk_at "md"
          refine f_stamp kf (atx.sub sub_ov) ?_
          walk_at "md"
          refine ⟨[.int ((M.row.length + 1 : Nat) : Int), valD tv], rfl, by simp, ?_⟩
          walk_at "md"
          refine m_app (ov_in hva) (by rw [versM_len]; have := hvl p0 (List.mem_of_getElem? h3); omega) ?_
          rw [ov_up, show ((versD p0.2).map MV.im) ++ [MV.im (.tup [.int ((M.row.length + 1 : Nat) : Int), valD tv])] = (versD (p0.2 ++ [(M.row.length + 1, tv)])).map MV.im from vers_snoc p0.2 (M.row.length + 1, tv)]
          have hAy := hAx.setVer hndx h2 h3 h4 (p0.2 ++ [(M.row.length + 1, tv)])
          refine ⟨A', _, rfl, djx.old hva, ?_, ?_, hRx, _, _, rfl⟩
          · rw [take_fold ep, hrows, ← hput, ← hve, hp0]; exact hAy
          · rw [mup_ne (by rintro rfl; rw [hcx] at hva; cases hva)]; exact hcx
        unfold kD
        walk_at "md"
        refine f_rows kf (hA7.sub sub_ov) ?_
        refine ⟨_, n, _, rfl, rfl, .d (hA7.sub sub_ov).d0, ?_⟩
        rw [lkM_kvF]
        rcases zip_get (rows := rows) (n := n) hA7.lv with ⟨h1, h2⟩ | ⟨j0, a0, p0, h1, h2, h3, h4, h5⟩
        · rw [h1]
          refine m_bl2 ⟨fun _ => ?_, fun h => (nomatch h)⟩
          walk_at "md"
          refine m_lstM ?_
          walk_at "md"
          refine ⟨by simp, fun b hb => ?_⟩
          rw [ov_up]
          have hb1 := (ov_none hb).1
          have sbb : ∀ o, Sub S6 (mup S6 b o) := fun o => Sub.rfl'.mup hb1
          have hA8 := hA7.sub (sbb (.lst []))
          walk_at "md"
          refine f_rows kf (hA8.sub sub_ov) ?_
          walk_at "md"
          refine ⟨_, n, _, rfl, rfl, ov_in hA8.d0, ?_, ?_⟩
          · rw [kvF_len, List.length_zip]
            have : (keysA rows).length ≤ 2160 := by unfold keysA; rw [List.length_map]; exact hrl
            dsimp only
            omega
          have hput : putM (kvF MV.mu ((keysA rows).zip A'.vers)) (.inr n) (.mu b) = kvF MV.mu ((keysA (rows ++ [(n, [])])).zip (A'.vers ++ [b])) := by
            rw [putM_kvF (f := MV.mu), putA_new h1]
            congr 1
            unfold keysA
            rw [List.map_append, List.zip_append (by rw [List.length_map]; exact hA7.lv.symm)]; rfl
          dsimp only
          rw [hput, ov_up]
          have hA9 := hA7.newVer (n := n) (q := b) h2 hb1
          refine (fin _ _ (rows ++ [(n, [])]) ((dj7.up (ov_none hb).2).up (dj7 _ _ hA7.d0)) hA9 ?_ hR7 ?_ ⟨[], ?_, ?_⟩ ?_ ?_).mono (fun _ _ z => z) (fun _ _ z => z) (fun _ _ z => z.elim) fun _ _ z => z.elim
          · rw [mup_ne (by rintro rfl; rw [hA7.d0] at hc6; cases hc6), mup_ne (by rintro rfl; rw [hb1] at hc6; cases hc6)]; exact hc6
          · rw [← putA_new h2]; exact nodup_put hnd
          · rw [getA_app, h2, getA_cons, if_pos rfl]; rfl
          · rw [h2]; rfl
          · unfold addVer
            rw [h2, putA_new h2]
            show putA (rows ++ [(n, [])]) n ([] ++ [(M.row.length + 1, tv)]) = rows ++ [(n, [] ++ [(M.row.length + 1, tv)])]
            unfold putA
            rw [if_pos (by rw [List.any_append]; simp), List.map_append]
            congr 1
            · have : ∀ q ∈ rows, ¬ q.1 = n := fun q hq e => by
                have := getA_none.mp h2
                exact this (e ▸ List.mem_map.mpr ⟨q, hq, rfl⟩)
              conv => rhs; rw [← List.map_id rows]
              refine List.map_congr_left fun q hq => ?_
              rw [if_neg (this q hq)]; rfl
            · simp
          · intro q hq
            rcases List.mem_append.mp hq with hq | hq
            · exact hvl q hq
            · rw [List.mem_singleton.mp hq]; exact Nat.zero_le _
        · rw [h1]
          refine m_bl2 ⟨fun h => (nomatch h), fun _ => ?_⟩
          walk_at "md"
          exact (fin A' S6 rows dj7 hA7 hc6 hR7 hnd ⟨p0.2, h5, by rw [h5]; rfl⟩ rfl hvl).mono (fun _ _ z => z) (fun _ _ z => z) (fun _ _ z => z.elim) fun _ _ z => z.elim
      · rintro E' S' ⟨A', S6, rfl, dj7, hA7, hc6, hR7, u, v, rfl⟩
        rw [kvF_len, List.take_length] at hA7
        walk_at "md"
        refine sh_up hA7 dj7 ?_
        have : M.keepAt i r p = { M5 with rows := r.own.foldl (addVer (M.row.length + 1)) M.rows } := by rw [← hM5]; rfl
        rw [← this]
        exact q
end
end Kr
set_option maxHeartbeats 1000000
namespace Kr
open PySem PySem.Spec L2
/-! ### displays of dicts -/
def EvP (K : PySem.W.Frag) (G0 : Hp) (trs : List (TE × TE)) (E : Env) (S : MS) (Q : List (MV × MV) → MS → Prop) : Prop := ∀ G own H σ (R : List (V × V) → Hp → Prop), Ext G0 G → Rep K G own H S → ER K G σ E →
  (∀ ps H' G' own' ms S', Ext G G' → Rep K G' own' H' S' → Paired (fun p q => VR K G' p.1 q.1 ∧ VR K G' p.2 q.2) ps ms → Q ms S' → R ps H') → tPairs trs σ H R
section
variable {K : PySem.W.Frag} {G0 : Hp} {E : Env} {S : MS} {Q : MV → MS → Prop}
theorem p_nil {Q : List (MV × MV) → MS → Prop} (h : Q [] S) : EvP K G0 [] E S Q := fun G own H σ R e Rp r c => c [] H G own [] S Ext.rfl' Rp .nil h
theorem p_cons {tk tv : TE} {trs : List (TE × TE)} {Q : List (MV × MV) → MS → Prop} (h : EvE K G0 tk E S fun x S1 => EvE K G0 tv E S1 fun y S2 => EvP K G0 trs E S2 fun ps S3 => Q ((x, y) :: ps) S3) : EvP K G0 ((tk, tv) :: trs) E S Q := fun G own H σ R e Rp r c =>
  h G own H σ _ e Rp r fun v H' G' own' m S' e' R' vr q => q G' own' H' σ _ (e.trans e') R' (r.ext e') fun v2 H2 G2 own2 m2 S2 e2 R2 vr2 q2 => q2 G2 own2 H2 σ _ ((e.trans e').trans e2) R2 ((r.ext e').ext e2) fun ps H3 G3 own3 ms S3 e3 R3 pr q3 =>
    c ((v, v2) :: ps) H3 G3 own3 ((m, m2) :: ms) S3 ((e'.trans e2).trans e3) R3 (.cons ⟨(vr.ext e2).ext e3, vr2.ext e3⟩ pr) q3
theorem pairs_kvs {G : Hp} : ∀ {ps : List (V × V)} {kvs : List (Str × MV)}, Paired (fun p q => VR K G p.1 q.1 ∧ VR K G p.2 q.2) ps (kvs.map fun kv => (MV.im (.str kv.1), kv.2)) → ∃ us : List (Key × V), ps = us.map (fun kv => (kV kv.1, kv.2)) ∧ KVR K G us (kvF (fun m => m) kvs)
  | _, [], .nil => ⟨[], rfl, .nil⟩
  | _, kv :: kvs, .cons (a := p) f t => by
    obtain ⟨us, rfl, ru⟩ := pairs_kvs t
    obtain ⟨p1, p2⟩ := p
    obtain ⟨f1, f2⟩ := f
    cases f1
    exact ⟨(.inr kv.1, p2) :: us, rfl, .cons ⟨rfl, f2⟩ ru⟩
theorem m_disp {trs : List (TE × TE)} (h : ∀ p, S p = none → EvP K G0 trs E (mup S p (.dct [])) fun ps S2 => ∃ kvs : List (Str × MV), ps = kvs.map (fun kv => (MV.im (.str kv.1), kv.2)) ∧ kvs.length ≤ 15 ∧ S2 p = some (.dct []) ∧ Q (.mu p) (mup S2 p (.dct (kvF (fun m => m) (lastA kvs))))) : EvE K G0 (tDisp trs) E S Q := fun G own H σ R e Rp r cv p hp => by
  refine h p (Rp.free hp) G _ _ σ _ e (Rp.cell hp (fr_dct .nil)) r fun ps H' G' own' ms S' e' R' pr q => ?_
  obtain ⟨kvs, rfl, hl, hS, q⟩ := q
  obtain ⟨u, hu, us0, rfl, ru0⟩ := R'.look hS trivial
  cases ru0
  obtain ⟨us, rfl, ru⟩ := pairs_kvs pr
  refine ⟨hu, us, rfl, by rw [Paired.length ru, kvF_len]; exact hl, cv _ _ G' own' (.mu p) _ e' (R'.write hS (fr_dct ?_)) (vr_mu p) q⟩
  have := ru.merge (us0 := []) (kvs := []) .nil
  rw [show mergeM [] (kvF (fun m => m) kvs) = kvF (fun m => m) (lastA kvs) from mergeM_kvF (d := [])] at this
  exact this
end
/-! ### the law's own def -/
def sp_law (_ : Program) (_ : World) (K : PySem.W.Frag) : Sp := fun vs H Q _ => ∃ (a : Addr) (ns : List Int), vs = [.ref a] ∧ SqL K H a (ns.map V.int) ∧ ns.length ≤ 63 ∧ ∀ H', Q (.bl true) H'
theorem len_law {P : Program} {w : World} {K : PySem.W.Frag} {vs : List V} {H : Hp} {Q : VK} {E : XK} (h : sp_law P w K vs H Q E) : vs.length = 1 := by obtain ⟨_, _, rfl, _⟩ := h; rfl
theorem rd_L {P : Program} {w : World} {K : PySem.W.Frag} {t : TS} {L : List Str} {vs : List V} {H : Hp} {Q : VK} {Ex : XK} (hs : sp_law P w K vs H Q Ex) (h : ∀ G0 ns, ns.length ≤ 63 → EvS K G0 t (startM L [.im (.scr ns)]) (fun _ => none) (bodyN K fun m _ => m = .im (.bl true))) :
    t { nx := fun _ H' => Q .non H', rt := Q } (start L vs) H := by
  obtain ⟨a, ns, rfl, hS, hl, q⟩ := hs
  have R : Rep K H (fun _ => none) H (fun _ => none) := ⟨Ext.rfl', ⟨fun b a h => (nomatch h), fun a o h => (nomatch h)⟩⟩
  have r : VRs K H [.ref a] [.im (.scr ns)] := .cons (Im.scr hS) .nil
  have e : ER K H (L2.start L [.ref a]) (startM L [.im (.scr ns)]) := VRs.start r _
  have cv : CV K H (fun m _ => m = .im (.bl true)) Q := fun v H' G' own' m S' _ _ vr hm => by
    subst hm; cases vr; exact q H'
  exact h H ns hl H _ H _ _ Ext.rfl' R e (fun σ' H' G' own' E' S' e' R' r' z => cv.up .non H' G' own' (.im .non) S' e' R' vr_non z) cv.up (fun _ _ _ _ _ _ _ _ _ z => z.elim) (fun _ _ _ _ _ _ _ _ _ z => z.elim)
/-! ### ended, deeds -/
abbrev deedsM (ds : List Deed) : List MV := ds.map fun d => .im (deedD d)
/-- one deed as it is told: data, or with its list as a cell of its own -/
def DeedC (S0 S : MS) (f : Addr) (d : Deed) (m : MV) : Prop := match d with
  | .under z ps => ∃ t l, m = .mu t ∧ S0 t = none ∧ S0 l = none ∧ l ≠ f ∧ t ≠ f ∧ S t = some (.tup [.im (.str "under"), .im (.str z), .mu l]) ∧ S l = some (.lst ((pairsD ps).map .im))
  | _ => m = .im (deedD d)
def mp_Shelf_deeds (K : PySem.W.Frag) : Mp := fun ms S Q X => ∃ (s : Addr) (M : ShM) (d : D), ms = [.mu s, .im d] ∧ S s = some (shO K M) ∧ okIn d ∧ (∀ r ∈ M.recs, r.done.length ≤ 50000) ∧
  match M.known d with
  | none => X (exc K "NoDealing") S
  | some i => ∀ r, M.recs[i]? = some r → (∀ q, S q = none → Q (.mu q) (mup S q (.lst (r.done.map fun d => .im (deedD d))))) ∨
      ∀ q ms S', S q = none → Sub S S' → S' q = some (.lst ms) → ms.length = r.done.length → (∀ (j : Nat) d m, r.done[j]? = some d → ms[j]? = some m → DeedC S S' q d m) → Q (.mu q) S'
/-- the shelf is closed, whatever has been laid beside it -/
theorem sh_wide {K : PySem.W.Frag} {S S1 S' : MS} {s : Addr} {A : ShA} {M : ShM} {mQ : MV → MS → Prop} {m : MV} (hs : S s = some (shO K M)) (hA : ShAt K S1 s A M) (dj : Dj (mer S s) S1) (hsub : Sub (ov (mer S s) S1) S')
    (q : ∀ S2, Sub S S2 → (∀ b, ov (mer S s) S1 b = none → S b = none ∧ S2 b = S' b) → mQ m S2) : Up K mQ m S' := by
  obtain ⟨dx, es⟩ := hA.s0
  let Sx : MS := fun a => match S1 a with | some _ => none | none => S' a
  have hx : ∀ a, S1 a = none → Sx a = S' a := fun a h => by show (match S1 a with | some _ => none | none => S' a) = _; rw [h]
  have hn : ∀ a o, S1 a = some o → Sx a = none := fun a o h => by show (match S1 a with | some _ => none | none => S' a) = _; rw [h]
  have e : ov (mer Sx s) S1 = S' := by
    funext a
    cases h : S1 a with
    | some o => rw [ov_in h]; exact (hsub a o (ov_in h)).symm
    | none =>
      have ne : a ≠ s := by rintro rfl; rw [es] at h; cases h
      unfold ov
      rw [h]
      show mer Sx s a = _
      rw [mer_ne ne, hx a h]
  rw [← e]
  refine sh_up hA (fun a o h => ?_) (q _ (fun a o h => ?_) fun b hb => ?_)
  · by_cases ne : a = s
    · subst ne; simp [mer]
    · rw [mer_ne ne]; exact hn a o h
  · by_cases ne : a = s
    · subst ne; rw [hs] at h; cases h; exact mup_same
    · rw [mup_ne ne]
      have h1 : S1 a = none := by
        cases h1 : S1 a with
        | none => rfl
        | some u => have := dj a u h1; rw [mer_ne ne, h] at this; cases this
      rw [hx a h1]
      refine hsub a o ?_
      unfold ov
      rw [h1]
      show mer S s a = _
      rw [mer_ne ne]; exact h
  · obtain ⟨h1, h2⟩ := ov_none hb
    have ne : b ≠ s := by rintro rfl; rw [es] at h1; cases h1
    rw [mer_ne ne] at h2
    exact ⟨h2, by rw [mup_ne ne, hx b h1]⟩
abbrev sp_Shelf_deeds (_ : Program) (_ : World) (K : PySem.W.Frag) : Sp := lift K (mp_Shelf_deeds K)
section
variable {P : Program} {w : World} {K : PySem.W.Frag} {vs : List V} {H : Hp} {Q : VK} {E : XK}
theorem len_Shelf_deeds (h : sp_Shelf_deeds P w K vs H Q E) : vs.length = 2 := lift_len (by rintro ms S mQ mX ⟨_, _, _, rfl, _⟩; rfl) h
def t_Shelf_deeds_j1 (P : Program) (w : World) (K : PySem.W.Frag) (E : XK) : TS :=
  (tDrop (tBM K "list" rAppend (tVar 2) (tCons (tVar 3) tNil)))
def t_Shelf_deeds (P : Program) (w : World) (K : PySem.W.Frag) (E : XK) : TS :=
  (tSeq (tAsg (tLst tNil) (gName 2)) (tSeq (tFor (iList K (tFld K (tMeth (He.ga K "Shelf") "known" (sp_Shelf_known P w K) [] E (tVar 0) (tCons (tVar 1) tNil)) "done")) (gName 3) (tSeq (tIfS (tTest (tOp rEq (tOp (rIxT K) (tVar 3) (tC (.int 0))) (tC (.str "under")))) (tAsg (tTup (tCons (tC (.str "under")) (tCons (tOp (rIxT K) (tVar 3) (tC (.int 1))) (tCons (tCB (c_list K) (tCons (tOp (rIxT K) (tVar 3) (tC (.int 2))) tNil)) tNil)))) (gName 3)) tNext) (t_Shelf_deeds_j1 P w K E))) (tRet (tVar 2))))

theorem rd_Shelf_deeds (kf : KF K) (h : sp_Shelf_deeds P w K vs H Q E) : t_Shelf_deeds P w K E { nx := fun _ H' => Q .non H', rt := Q } (start ["self", "number", "found", "deed"] vs) H := by
  refine rd_X h fun G0 Ex ms S mQ mX hX h => ?_
  obtain ⟨s, M, d, rfl, hs, hd, hsz, q⟩ := h
  refine sh_open hs fun S1 A hA dj => ?_
  unfold t_Shelf_deeds bodyN
  walk_at "s0"
  walk_at "md"
  refine m_lstM ?_
  walk_at "md"
  refine ⟨by simp, fun f hf => ?_⟩
  have sbf : ∀ o, Sub (ov (mer S s) S1) (mup (ov (mer S s) S1) f o) := fun o => Sub.rfl'.mup hf
  have hA' : ShAt K (ov (mer S s) S1) s A M := hA.sub sub_ov
  walk_at "md"
  refine n_for (i_list ?_)
  walk_at "md"
  refine m_meth hX ?_
  walk_at "md"
  refine ⟨s, rfl, i_sh (hA'.sub (sbf _)) (by decide +kernel), ?_⟩
  walk_at "md"
  refine ⟨s, A, M, d, rfl, hA'.sub (sbf _), hd, ?_⟩
  cases hg : M.known d with
  | none =>
    rw [hg] at q
    exact upX_go (go_sub (sbf _)) (sh_sameX hs hA dj q)
  | some i =>
    rw [hg] at q
    intro R r hR hr hAt
    have hlen := hsz r (List.mem_of_getElem? hr)
    have wide : ∀ {S' : MS} {m : MV}, Sub (ov (mer S s) S1) S' → (∀ S2, Sub S S2 → (∀ b, ov (mer S s) S1 b = none → S b = none ∧ S2 b = S' b) → mQ m S2) → Up K mQ m S' := fun h1 h2 => sh_wide hs hA dj h1 h2
    refine f_done kf hAt ?_
    rcases q r hr with q | q
    · have hd0 : ∀ o, mup (ov (mer S s) S1) f o R.d = some (.lst (r.done.map fun d => .im (deedD d))) := fun o => sbf o _ _ (hA'.rc i R r hR hr).d
      refine .inr ⟨R.d, _, rfl, hd0 _, fun k E' S' => (∃ u, E' = [some (.mu s), some (.im d), some (.mu f), u]) ∧ S' = mup (ov (mer S s) S1) f (.lst ((r.done.take k).map fun d => .im (deedD d))), ⟨⟨none, rfl⟩, rfl⟩, ?_, ?_, ?_⟩
      · rintro k E' S' _ ⟨_, rfl⟩; exact hd0 _
      · rintro k m E' S' hk em ⟨⟨u, rfl⟩, rfl⟩
        have em' : (r.done.map fun d => MV.im (deedD d))[k]? = some m := em
        rw [List.getElem?_map] at em'
        cases e : r.done[k]? with
        | none => rw [e] at em'; cases em'
        | some x =>
          rw [e] at em'
          cases em'
          have hk' := (List.getElem?_eq_some_iff.mp e).1
          have tk : (r.done.take (k + 1)).map (fun d => MV.im (deedD d)) = (r.done.take k).map (fun d => MV.im (deedD d)) ++ [.im (deedD x)] := by rw [List.take_succ, e, List.map_append]; rfl
          have fin : ∀ u', (∃ u'', ([some (MV.mu s), some (.im d), some (.mu f), u'] : Env) = [some (.mu s), some (.im d), some (.mu f), u'']) ∧ mup (mup (ov (mer S s) S1) f (.lst ((r.done.take k).map fun d => .im (deedD d)))) f (.lst ((r.done.take k).map (fun d => MV.im (deedD d)) ++ [.im (deedD x)])) = mup (ov (mer S s) S1) f (.lst ((r.done.take (k + 1)).map fun d => .im (deedD d))) := fun u' => ⟨⟨_, rfl⟩, by rw [mup_mup, tk]⟩
          cases x with
          | under z ps =>
            unfold deedD
            walk_at "md"
            refine ⟨fun _ => ?_, fun h => absurd h (by simp)⟩
            walk_at "md"
            refine m_tupI ?_
            walk_at "md"
            refine m_listI ?_
            walk_at "md"
            refine ⟨[.str "under", .str z, .lst (pairsD ps)], rfl, by simp, ?_⟩
            walk_at "md"
            unfold t_Shelf_deeds_j1
            walk_at "md"
            refine m_bm ?_
            walk_at "md"
            refine ⟨tyL_M mup_same, ?_⟩
            walk_at "md"
            exact m_app mup_same (by rw [List.length_map, List.length_take]; omega) (fin _)
          | read n v =>
            unfold deedD
            walk_at "md"
            refine ⟨fun h => absurd h (by rw [decide_eq_true_iff]; decide +kernel), fun _ => ?_⟩
            walk_at "md"
            unfold t_Shelf_deeds_j1
            walk_at "md"
            refine m_bm ?_
            walk_at "md"
            refine ⟨tyL_M mup_same, ?_⟩
            walk_at "md"
            exact m_app mup_same (by rw [List.length_map, List.length_take]; omega) (fin _)
          | write n v =>
            unfold deedD
            walk_at "md"
            refine ⟨fun h => absurd h (by rw [decide_eq_true_iff]; decide +kernel), fun _ => ?_⟩
            walk_at "md"
            unfold t_Shelf_deeds_j1
            walk_at "md"
            refine m_bm ?_
            walk_at "md"
            refine ⟨tyL_M mup_same, ?_⟩
            walk_at "md"
            exact m_app mup_same (by rw [List.length_map, List.length_take]; omega) (fin _)
          | back j =>
            unfold deedD
            walk_at "md"
            refine ⟨fun h => absurd h (by rw [decide_eq_true_iff]; decide +kernel), fun _ => ?_⟩
            walk_at "md"
            unfold t_Shelf_deeds_j1
            walk_at "md"
            refine m_bm ?_
            walk_at "md"
            refine ⟨tyL_M mup_same, ?_⟩
            walk_at "md"
            exact m_app mup_same (by rw [List.length_map, List.length_take]; omega) (fin _)
      · rintro E' S' ⟨⟨u, rfl⟩, rfl⟩
        have : (srcM R.d (r.done.map fun d => MV.im (deedD d))).n = r.done.length := List.length_map _
        rw [this, List.take_length]
        walk_at "md"
        exact sh_fresh hs hA dj hf (q f)
    · -- with their lists as cells
      have hB : Sub (ov (mer S s) S1) (ov (mer S s) S1) := Sub.rfl'
      have hd0 : ∀ {S'}, Sub (ov (mer S s) S1) S' → S' R.d = some (.lst (r.done.map fun d => .im (deedD d))) := fun g => g _ _ (hA'.rc i R r hR hr).d
      generalize ov (mer S s) S1 = B at hf sbf hd0 hA' hB wide ⊢
      refine .inr ⟨R.d, _, rfl, hd0 (sbf _), fun k E' S' => (∃ u, E' = [some (.mu s), some (.im d), some (.mu f), u]) ∧ Sub B S' ∧ ∃ ms, S' f = some (.lst ms) ∧ ms.length = k ∧ ∀ (j : Nat) d m, r.done[j]? = some d → ms[j]? = some m → DeedC B S' f d m, ⟨⟨none, rfl⟩, sbf _, [], mup_same, rfl, fun j d m _ e => (nomatch e)⟩, ?_, ?_, ?_⟩
      · rintro k E' S' _ ⟨_, hsub, _⟩; exact hd0 hsub
      · rintro k m E' S' hk em ⟨⟨u, rfl⟩, hsub, ms, hms, hml, hall⟩
        have em' : (r.done.map fun d => MV.im (deedD d))[k]? = some m := em
        rw [List.getElem?_map] at em'
        cases e : r.done[k]? with
        | none => rw [e] at em'; cases em'
        | some x =>
          rw [e] at em'
          cases em'
          have hk' := (List.getElem?_eq_some_iff.mp e).1
          have fin : ∀ {S2 : MS} {y : MV} {u' : Option MV}, Sub B S2 → S2 f = some (.lst ms) → (∀ b o, b ≠ f → S' b = some o → S2 b = some o) → DeedC B S2 f x y → (∃ u'', ([some (MV.mu s), some (.im d), some (.mu f), u'] : Env) = [some (.mu s), some (.im d), some (.mu f), u'']) ∧ Sub B (mup S2 f (.lst (ms ++ [y]))) ∧ ∃ ms', mup S2 f (.lst (ms ++ [y])) f = some (.lst ms') ∧ ms'.length = k + 1 ∧ ∀ (j : Nat) d m, r.done[j]? = some d → ms'[j]? = some m → DeedC B (mup S2 f (.lst (ms ++ [y]))) f d m := by
            intro S2 y u' h1 h2 h3 h4
            have up_ : ∀ {d m}, DeedC B S2 f d m → DeedC B (mup S2 f (.lst (ms ++ [y]))) f d m := fun {d m} g => by
              cases d with
              | under z ps =>
                obtain ⟨t, l, a1, a2, a3, a4, a5, a6, a7⟩ := g
                exact ⟨t, l, a1, a2, a3, a4, a5, by rw [mup_ne a5]; exact a6, by rw [mup_ne a4]; exact a7⟩
              | _ => exact g
            have old_ : ∀ {d m}, DeedC B S' f d m → DeedC B S2 f d m := fun {d m} g => by
              cases d with
              | under z ps =>
                obtain ⟨t, l, a1, a2, a3, a4, a5, a6, a7⟩ := g
                exact ⟨t, l, a1, a2, a3, a4, a5, h3 _ _ a5 a6, h3 _ _ a4 a7⟩
              | _ => exact g
            refine ⟨⟨_, rfl⟩, fun b o g => ?_, _, mup_same, by rw [List.length_append, hml]; rfl, fun j d m g1 g2 => up_ ?_⟩
            · rw [mup_ne (by rintro rfl; rw [hf] at g; cases g)]; exact h1 _ _ g
            · by_cases l : j < ms.length
              · rw [List.getElem?_append_left l] at g2
                exact old_ (hall j d m g1 g2)
              · have : j = k := by have := (List.getElem?_eq_some_iff.mp g2).1; rw [List.length_append] at this; simp at this; omega
                subst this
                rw [← hml, List.getElem?_append_right (Nat.le_refl _)] at g2
                simp at g2
                subst g2
                rw [e] at g1; cases g1
                exact h4
          have flat : ∀ {y : Deed} {rt : MV → MS → Prop} {bk ct : Env → MS → Prop}, y = x → (∀ S2, DeedC B S2 f y (.im (deedD y))) → EvS K G0 (t_Shelf_deeds_j1 P w K Ex) [some (.mu s), some (.im d), some (.mu f), some (.im (deedD y))] S' ⟨fun E' S' => (∃ u, E' = [some (.mu s), some (.im d), some (.mu f), u]) ∧ Sub B S' ∧ ∃ ms, S' f = some (.lst ms) ∧ ms.length = k + 1 ∧ ∀ (j : Nat) d m, r.done[j]? = some d → ms[j]? = some m → DeedC B S' f d m, rt, bk, ct⟩ := by
            intro y rt bk ct hy hdc
            subst hy
            unfold t_Shelf_deeds_j1
            walk_at "md"
            refine m_bm ?_
            walk_at "md"
            refine ⟨tyL_M hms, ?_⟩
            walk_at "md"
            exact m_app hms (by omega) (fin hsub hms (fun b o _ g => g) (hdc _))
          cases x with
          | under z ps =>
            unfold deedD
            walk_at "md"
            refine ⟨fun _ => ?_, fun h => absurd h (by simp)⟩
            walk_at "md"
            refine m_tupM ?_
            walk_at "md"
            refine m_listIM fun l hl => ?_
            walk_at "md"
            refine ⟨by simp, fun t ht => ?_⟩
            obtain ⟨ntl, ht0⟩ := mup_none ht
            have nlf : l ≠ f := by rintro rfl; rw [hms] at hl; cases hl
            have ntf : t ≠ f := by rintro rfl; rw [hms] at ht0; cases ht0
            have bn : ∀ {b}, S' b = none → B b = none := fun {b} h => by
              cases g : B b with
              | none => rfl
              | some o => rw [hsub _ _ g] at h; cases h
            have hf2 : mup (mup S' l (.lst ((pairsD ps).map .im))) t (.tup [.im (.str "under"), .im (.str z), .mu l]) f = some (.lst ms) := by rw [mup_ne (Ne.symm ntf), mup_ne (Ne.symm nlf)]; exact hms
            walk_at "md"
            unfold t_Shelf_deeds_j1
            walk_at "md"
            refine m_bm ?_
            walk_at "md"
            refine ⟨tyL_M hf2, ?_⟩
            walk_at "md"
            refine m_app hf2 (by omega) (fin ((hsub.mup (bn hl)).mup (bn ht0)) hf2 (fun b o _ g => ?_) ⟨t, l, rfl, bn ht0, bn hl, nlf, ntf, mup_same, by rw [mup_ne (Ne.symm ntl), mup_same]⟩)
            rw [mup_ne (by rintro rfl; rw [g] at ht0; cases ht0), mup_ne (by rintro rfl; rw [g] at hl; cases hl)]; exact g
          | read n v =>
            have := @flat _ (Up K mQ) (fun E' S' => EvS K G0 (tRet (tVar 2)) E' S' ⟨fun _ S' => Up K mQ (.im .non) S', Up K mQ, fun _ _ => False, fun _ _ => False⟩) (fun E' S' => (∃ u, E' = [some (.mu s), some (.im d), some (.mu f), u]) ∧ Sub B S' ∧ ∃ ms, S' f = some (.lst ms) ∧ ms.length = k + 1 ∧ ∀ (j : Nat) d m, r.done[j]? = some d → ms[j]? = some m → DeedC B S' f d m) rfl fun _ => rfl
            unfold deedD at this ⊢
            walk_at "md"
            refine ⟨fun h => absurd h (by rw [decide_eq_true_iff]; decide +kernel), fun _ => ?_⟩
            walk_at "md"
            exact this
          | write n v =>
            have := @flat _ (Up K mQ) (fun E' S' => EvS K G0 (tRet (tVar 2)) E' S' ⟨fun _ S' => Up K mQ (.im .non) S', Up K mQ, fun _ _ => False, fun _ _ => False⟩) (fun E' S' => (∃ u, E' = [some (.mu s), some (.im d), some (.mu f), u]) ∧ Sub B S' ∧ ∃ ms, S' f = some (.lst ms) ∧ ms.length = k + 1 ∧ ∀ (j : Nat) d m, r.done[j]? = some d → ms[j]? = some m → DeedC B S' f d m) rfl fun _ => rfl
            unfold deedD at this ⊢
            walk_at "md"
            refine ⟨fun h => absurd h (by rw [decide_eq_true_iff]; decide +kernel), fun _ => ?_⟩
            walk_at "md"
            exact this
          | back j =>
            have := @flat _ (Up K mQ) (fun E' S' => EvS K G0 (tRet (tVar 2)) E' S' ⟨fun _ S' => Up K mQ (.im .non) S', Up K mQ, fun _ _ => False, fun _ _ => False⟩) (fun E' S' => (∃ u, E' = [some (.mu s), some (.im d), some (.mu f), u]) ∧ Sub B S' ∧ ∃ ms, S' f = some (.lst ms) ∧ ms.length = k + 1 ∧ ∀ (j : Nat) d m, r.done[j]? = some d → ms[j]? = some m → DeedC B S' f d m) rfl fun _ => rfl
            unfold deedD at this ⊢
            walk_at "md"
            refine ⟨fun h => absurd h (by rw [decide_eq_true_iff]; decide +kernel), fun _ => ?_⟩
            walk_at "md"
            exact this
      · rintro E' S' ⟨⟨u, rfl⟩, hsub, ms, hms, hml, hall⟩
        have hn : (srcM R.d (r.done.map fun d => MV.im (deedD d))).n = r.done.length := List.length_map _
        rw [hn] at hml
        walk_at "md"
        refine wide hsub fun S2 h1 h2 => q f ms S2 (h2 f hf).1 h1 (by rw [(h2 f hf).2]; exact hms) hml fun j d m g1 g2 => ?_
        have := hall j d m g1 g2
        cases d with
        | under z ps =>
          obtain ⟨t, l, a1, a2, a3, a4, a5, a6, a7⟩ := this
          exact ⟨t, l, a1, (h2 t a2).1, (h2 l a3).1, a4, a5, by rw [(h2 t a2).2]; exact a6, by rw [(h2 l a3).2]; exact a7⟩
        | _ => exact this
end
end Kr
set_option maxHeartbeats 1000000
namespace Kr
open PySem PySem.Spec L2
/-! ### sizes of a shelf -/
structure RB (pool : List Str) (c : Nat) (r : RecM) : Prop where
  puts : r.puts.length ≤ c
  done : r.done.length ≤ c
  seen : r.seen.length ≤ c
  heads : r.heads.length ≤ c
  nm : ∀ p ∈ r.puts, p.1 ∈ pool
  hd : ∀ p ∈ r.heads, HeadOk p.1
structure ShB (pool : List Str) (c : Nat) (M : ShM) : Prop where
  nm : ∀ n ∈ keysA M.rows, n ∈ pool
  nd : (keysA M.rows).Nodup
  vr : ∀ p ∈ M.rows, p.2.length ≤ c
  recs : M.recs.length ≤ c
  row : M.row.length ≤ c
  inr : ∀ x ∈ M.row, x < M.recs.length
  rc : ∀ r ∈ M.recs, RB pool c r
theorem RB.mono {pool : List Str} {c c' : Nat} {r : RecM} (h : RB pool c r) (l : c ≤ c') : RB pool c' r := ⟨Nat.le_trans h.puts l, Nat.le_trans h.done l, Nat.le_trans h.seen l, Nat.le_trans h.heads l, h.nm, h.hd⟩
theorem ShB.mono {pool : List Str} {c c' : Nat} {M : ShM} (h : ShB pool c M) (l : c ≤ c') : ShB pool c' M := ⟨h.nm, h.nd, fun p hp => Nat.le_trans (h.vr p hp) l, Nat.le_trans h.recs l, Nat.le_trans h.row l, h.inr, fun r hr => (h.rc r hr).mono l⟩
theorem nodup_le : ∀ {l pool : List Str}, l.Nodup → (∀ x ∈ l, x ∈ pool) → l.length ≤ pool.length
  | [], _, _, _ => Nat.zero_le _
  | x :: l, pool, hn, hs => by
    obtain ⟨h1, h2⟩ := List.nodup_cons.mp hn
    have hx := hs x List.mem_cons_self
    have := nodup_le (l := l) (pool := pool.erase x) h2 fun y hy => by
      have hyx : y ≠ x := by rintro rfl; exact h1 hy
      exact (List.mem_erase_of_ne hyx).mpr (hs y (List.mem_cons_of_mem _ hy))
    rw [List.length_erase_of_mem hx] at this
    have hp : 0 < pool.length := List.length_pos_of_mem hx
    rw [List.length_cons]; omega
theorem ShB.ok {pool : List Str} {c : Nat} {M : ShM} (h : ShB pool c M) (hp : ∀ n ∈ pool, NameOk n) (hl : pool.length ≤ 160) (hc : c ≤ 3000) : ShOk M where
  nm := fun p hq => hp _ (h.nm _ (List.mem_map.mpr ⟨p, hq, rfl⟩))
  vr := fun p hq => by have := h.vr p hq; omega
  nd := h.nd
  rows := by have := nodup_le h.nd h.nm; unfold keysA at this; rw [List.length_map] at this; omega
  recs := by have := h.recs; omega
  row := by have := h.row; omega
  inr := h.inr
  rc := fun r hr => by
    have q := h.rc r hr
    refine ⟨by have := q.puts; omega, ?_, by have := q.done; omega, by have := q.seen; omega, by have := q.heads; omega, fun p hq => hp _ (q.nm p hq), q.hd⟩
    have := nodup_le (nodup_last r.puts) (pool := pool) fun x hx => by
      rw [mem_keys_last] at hx
      obtain ⟨p, hq, rfl⟩ := List.mem_map.mp hx
      exact q.nm p hq
    unfold keysA at this; rw [List.length_map] at this
    show (lastA r.puts).length ≤ 160
    omega
theorem ShB.get {pool : List Str} {c : Nat} {M : ShM} (h : ShB pool c M) {i : Nat} {r : RecM} (hr : M.recs[i]? = some r) : RB pool c r := h.rc r (List.mem_of_getElem? hr)
theorem ShB.set {pool : List Str} {c c' : Nat} {M : ShM} (h : ShB pool c M) (l : c ≤ c') {i : Nat} {r : RecM} (q : RB pool c' r) : ShB pool c' (M.setRec i r) := by
  have h' := h.mono l
  refine ⟨h'.nm, h'.nd, h'.vr, by show (M.recs.set i r).length ≤ c'; rw [List.length_set]; exact h'.recs, h'.row, fun x hx => by show x < (M.recs.set i r).length; rw [List.length_set]; exact h'.inr x hx, fun r2 hr2 => ?_⟩
  rcases List.mem_or_eq_of_mem_set hr2 with h2 | h2
  · exact h'.rc r2 h2
  · rw [h2]; exact q
theorem ShB.begun {pool : List Str} {c : Nat} {M : ShM} (h : ShB pool c M) : ShB pool (c + 1) M.begun := by
  have h' := h.mono (Nat.le_succ c)
  refine ⟨h'.nm, h'.nd, h'.vr, by show (M.recs ++ _).length ≤ _; rw [List.length_append]; exact Nat.add_le_add_right h.recs 1, h'.row, fun x hx => by show x < (M.recs ++ _).length; rw [List.length_append]; exact Nat.lt_succ_of_lt (h'.inr x hx), fun r2 hr2 => ?_⟩
  rcases List.mem_append.mp hr2 with h2 | h2
  · exact h'.rc r2 h2
  · rw [List.mem_singleton.mp h2]; exact ⟨Nat.zero_le _, Nat.zero_le _, Nat.zero_le _, Nat.zero_le _, fun p hp => (nomatch hp), fun p hp => (nomatch hp)⟩
theorem ShB.readAt {pool : List Str} {c : Nat} {M : ShM} (h : ShB pool c M) {i : Nat} {r : RecM} (hr : M.recs[i]? = some r) (n : Str) : ShB pool (c + 1) (M.readAt i r n) := by
  have q := (h.get hr)
  refine h.set (Nat.le_succ c) ⟨Nat.le_succ_of_le q.puts, ?_, ?_, Nat.le_succ_of_le q.heads, q.nm, q.hd⟩
  · show (r.done ++ _).length ≤ _; rw [List.length_append]; exact Nat.add_le_add_right q.done 1
  · dsimp only
    split
    · exact Nat.le_succ_of_le q.seen
    · exact Nat.le_trans length_put (Nat.add_le_add_right q.seen 1)
theorem ShB.underAt {pool : List Str} {c : Nat} {M : ShM} (h : ShB pool c M) {i : Nat} {r : RecM} (hr : M.recs[i]? = some r) {z : Str} (hz : HeadOk z) : ShB pool (c + 1) (M.underAt i r z) := by
  have q := (h.get hr)
  refine h.set (Nat.le_succ c) ⟨Nat.le_succ_of_le q.puts, ?_, Nat.le_succ_of_le q.seen, Nat.le_trans length_put (Nat.add_le_add_right q.heads 1), q.nm, fun p hp => ?_⟩
  · show (r.done ++ _).length ≤ _; rw [List.length_append]; exact Nat.add_le_add_right q.done 1
  · rcases mem_put hp with hp | rfl
    · exact q.hd p hp
    · exact hz
theorem ShB.writeAt {pool : List Str} {c : Nat} {M : ShM} (h : ShB pool c M) {i : Nat} {r : RecM} (hr : M.recs[i]? = some r) {n : Str} (hn : n ∈ pool) (v : Val) : ShB pool (c + 1) (M.writeAt i r n v) := by
  have q := (h.get hr)
  refine h.set (Nat.le_succ c) ⟨?_, ?_, Nat.le_succ_of_le q.seen, Nat.le_succ_of_le q.heads, fun p hp => ?_, q.hd⟩
  · show (r.puts ++ _).length ≤ _; rw [List.length_append]; exact Nat.add_le_add_right q.puts 1
  · show (r.done ++ _).length ≤ _; rw [List.length_append]; exact Nat.add_le_add_right q.done 1
  · rcases List.mem_append.mp hp with hp | hp
    · exact q.nm p hp
    · rw [List.mem_singleton.mp hp]; exact hn
theorem ShB.backAt {pool : List Str} {c : Nat} {M : ShM} (h : ShB pool c M) {i : Nat} {r : RecM} (hr : M.recs[i]? = some r) (k : Nat) : ShB pool (c + 1) (M.backAt i r k) := by
  have q := (h.get hr)
  refine h.set (Nat.le_succ c) ⟨?_, ?_, Nat.le_succ_of_le q.seen, Nat.le_succ_of_le q.heads, fun p hp => q.nm p (List.mem_of_mem_take hp), q.hd⟩
  · show (r.puts.take k).length ≤ _; rw [List.length_take]; have := q.puts; omega
  · show (r.done ++ _).length ≤ _; rw [List.length_append]; exact Nat.add_le_add_right q.done 1
theorem ShB.dropAt {pool : List Str} {c : Nat} {M : ShM} (h : ShB pool c M) {i : Nat} {r : RecM} (hr : M.recs[i]? = some r) : ShB pool c (M.dropAt i r) := by
  have q := (h.get hr)
  exact h.set (Nat.le_refl c) ⟨q.puts, q.done, q.seen, q.heads, q.nm, q.hd⟩
/-! ### versions -/
def oneVer (st : Nat) : Option Val → Vers
  | some v => [(st, v)]
  | none => []
theorem oneVer_len (st : Nat) (o : Option Val) : (oneVer st o).length ≤ 1 := by cases o <;> simp [oneVer]
theorem getA_adds {st : Nat} : ∀ {ps : Puts} {rows : List (Str × Vers)} {n : Str}, (keysA ps).Nodup → (getA (ps.foldl (addVer st) rows) n).getD [] = (getA rows n).getD [] ++ oneVer st (getA ps n)
  | [], rows, n, _ => by simp [getA_nil, oneVer]
  | p :: ps, rows, n, h => by
    have hn := List.nodup_cons.mp (show (p.1 :: keysA ps).Nodup from h)
    rw [List.foldl_cons, getA_adds hn.2, getA_cons]
    unfold addVer
    rw [getA_put]
    by_cases e : p.1 = n
    · subst e
      rw [if_pos rfl, if_pos rfl, show getA ps p.1 = none from getA_none.mpr hn.1]
      simp [oneVer]
    · rw [if_neg e, if_neg e]
theorem mem_keys_adds {st : Nat} : ∀ {ps : Puts} {rows : List (Str × Vers)} {n : Str}, n ∈ keysA (ps.foldl (addVer st) rows) ↔ n ∈ keysA rows ∨ n ∈ keysA ps
  | [], rows, n => by simp [keysA]
  | p :: ps, rows, n => by
    rw [List.foldl_cons, mem_keys_adds]
    unfold addVer
    rw [mem_keys_put]
    simp only [keysA, List.map_cons, List.mem_cons]
    constructor
    · rintro ((h | h) | h)
      · exact .inr (.inl h)
      · exact .inl h
      · exact .inr (.inr h)
    · rintro (h | h | h)
      · exact .inl (.inr h)
      · exact .inl (.inl h)
      · exact .inr h
theorem ShM.vers_keep (M : ShM) (i : Nat) (r : RecM) (p : Nat) (n : Str) : (M.keepAt i r p).vers n = M.vers n ++ oneVer (M.row.length + 1) (getA r.own n) := getA_adds (nodup_last r.puts)
theorem vers_mem {M : ShM} {n : Str} {v : Nat × Val} (h : v ∈ M.vers n) : ∃ p ∈ M.rows, p.1 = n ∧ v ∈ p.2 := by
  unfold ShM.vers at h
  cases e : getA M.rows n with
  | none => rw [e] at h; cases h
  | some w => rw [e] at h; exact ⟨(n, w), getA_in e, rfl, h⟩
theorem mem_vers {M : ShM} (hd : (keysA M.rows).Nodup) {p : Str × Vers} (hp : p ∈ M.rows) : M.vers p.1 = p.2 := by
  unfold ShM.vers
  rw [getA_of_mem hd hp]; rfl
theorem newest_app (vs : Vers) (st : Nat) (v : Val) (m : Nat) : newestV (vs ++ [(st, v)]) m = if st ≤ m then v else newestV vs m := by
  unfold newestV; rw [List.foldl_append]; rfl
theorem newest_all {vs : Vers} {m k : Nat} (h : ∀ v ∈ vs, v.1 ≤ m) (hk : m ≤ k) : newestV vs k = newestV vs m := by
  unfold newestV
  generalize (none : Val) = acc
  induction vs generalizing acc with
  | nil => rfl
  | cons v vs ih =>
    rw [List.foldl_cons, List.foldl_cons, ih (fun w hw => h w (List.mem_cons_of_mem _ hw))]
    have := h v List.mem_cons_self
    rw [if_pos this, if_pos (by omega)]
theorem ShB.keepAt {pool : List Str} {c : Nat} {M : ShM} (h : ShB pool c M) {i : Nat} {r : RecM} (hr : M.recs[i]? = some r) (p : Nat) : ShB pool (c + 1) (M.keepAt i r p) := by
  have q := h.get hr
  have hi := (List.getElem?_eq_some_iff.mp hr).1
  have hnd : (keysA (M.keepAt i r p).rows).Nodup := nodup_adds h.nd
  refine ⟨fun n hn => ?_, hnd, fun x hx => ?_, ?_, ?_, fun x hx => ?_, fun r2 hr2 => ?_⟩
  · rcases mem_keys_adds.mp hn with hn | hn
    · exact h.nm n hn
    · rw [mem_keys_last] at hn
      obtain ⟨z, hz, rfl⟩ := List.mem_map.mp hn
      exact q.nm z hz
  · rw [← mem_vers hnd hx, ShM.vers_keep, List.length_append]
    have h1 : (M.vers x.1).length ≤ c := by
      unfold ShM.vers
      cases e : getA M.rows x.1 with
      | none => exact Nat.zero_le _
      | some w => exact h.vr _ (getA_in e)
    have h2 := oneVer_len (M.row.length + 1) (getA r.own x.1)
    omega
  · show (M.recs.set i _).length ≤ _; rw [List.length_set]; exact Nat.le_succ_of_le h.recs
  · show (M.row.take p ++ [i] ++ M.row.drop p).length ≤ _
    have := h.row
    simp only [List.length_append, List.length_take, List.length_drop, List.length_cons, List.length_nil]; omega
  · show x < (M.recs.set i _).length
    rw [List.length_set]
    have hx' : x ∈ M.row.take p ++ [i] ++ M.row.drop p := hx
    rcases List.mem_append.mp hx' with hx' | hx'
    · rcases List.mem_append.mp hx' with hx' | hx'
      · exact h.inr x (List.mem_of_mem_take hx')
      · rw [List.mem_singleton.mp hx']; exact hi
    · exact h.inr x (List.mem_of_mem_drop hx')
  · rcases List.mem_or_eq_of_mem_set hr2 with h2 | h2
    · exact (h.rc r2 h2).mono (Nat.le_succ c)
    · rw [h2]
      exact ⟨Nat.le_succ_of_le q.puts, Nat.le_succ_of_le q.done, Nat.le_succ_of_le q.seen, Nat.le_succ_of_le q.heads, q.nm, q.hd⟩
end Kr
set_option maxHeartbeats 1000000
namespace Kr
open PySem PySem.Spec L2
/-! ### sweep -/
def leastR (rs : List RecM) (m : Nat) : Nat := rs.foldl (fun m r => if r.mood = ("open" : Str) then (if r.start < m then r.start else m) else m) m
def ShM.least (M : ShM) : Nat := leastR M.recs M.row.length
/-- the place of the last that is numbered no higher -/
def cutN (us : Vers) (m : Nat) : Nat → Nat
  | 0 => 0
  | k + 1 => if (us[k]?.any fun v => decide (v.1 ≤ m)) = true then k else cutN us m k
def cutW (us : Vers) (m : Nat) : Vers := us.drop (cutN us m us.length)
def cutP (m : Nat) (p : Str × Vers) : Str × Vers := (p.1, cutW p.2 m)
def goneN (m : Nat) (rows : List (Str × Vers)) : Nat := (rows.map fun p => cutN p.2 m p.2.length).sum
def ShM.swept (M : ShM) : ShM := { M with rows := M.rows.map (cutP M.least) }
def mp_Shelf_sweep (K : PySem.W.Frag) : Mp := fun ms S Q _ => ∃ (s : Addr) (M : ShM), ms = [.mu s] ∧ S s = some (shO K M) ∧ ShOk M ∧ Q (.im (.int (goneN M.least M.rows : Nat))) (mup S s (shO K M.swept))
abbrev sp_Shelf_sweep (_ : Program) (_ : World) (K : PySem.W.Frag) : Sp := lift K (mp_Shelf_sweep K)
def cutTo {α : Type} (f : α → α) : List α → Nat → List α
  | [], _ => []
  | x :: xs, 0 => x :: xs
  | x :: xs, i + 1 => f x :: cutTo f xs i
theorem cutTo_0 {α : Type} {f : α → α} {xs : List α} : cutTo f xs 0 = xs := by cases xs <;> rfl
theorem cutTo_set {α : Type} {f : α → α} : ∀ {xs : List α} {i : Nat} {p : α}, xs[i]? = some p → (cutTo f xs i).set i (f p) = cutTo f xs (i + 1)
  | [], _, _, h => by cases h
  | x :: xs, 0, p, h => by
    cases h
    show (x :: xs).set 0 (f x) = f x :: cutTo f xs 0
    rw [cutTo_0]; rfl
  | x :: xs, i + 1, p, h => by
    show f x :: (cutTo f xs i).set i (f p) = f x :: cutTo f xs (i + 1)
    rw [cutTo_set (by simpa using h)]
theorem cutTo_get {α : Type} {f : α → α} : ∀ {xs : List α} {i : Nat} {p : α}, xs[i]? = some p → (cutTo f xs i)[i]? = some p
  | [], _, _, h => by cases h
  | x :: xs, 0, p, h => h
  | x :: xs, i + 1, p, h => cutTo_get (xs := xs) (i := i) (by simpa using h)
theorem cutTo_all {α : Type} {f : α → α} : ∀ {xs : List α}, cutTo f xs xs.length = xs.map f
  | [] => rfl
  | x :: xs => by show f x :: cutTo f xs xs.length = _; rw [cutTo_all]; rfl
theorem cutTo_keys {m : Nat} : ∀ {xs : List (Str × Vers)} {i : Nat}, keysA (cutTo (cutP m) xs i) = keysA xs
  | [], _ => rfl
  | x :: xs, 0 => rfl
  | x :: xs, i + 1 => by
    show x.1 :: keysA (cutTo (cutP m) xs i) = _
    rw [cutTo_keys]; rfl
theorem cutN_le {us : Vers} {m : Nat} : ∀ k, cutN us m k ≤ k
  | 0 => Nat.le_refl _
  | k + 1 => by
    unfold cutN
    split
    · exact Nat.le_succ k
    · exact Nat.le_succ_of_le (cutN_le k)
theorem put_zip {ks : List Str} {n : Str} {q : Addr} : ∀ {vs : List Addr} {j : Nat}, ks.Nodup → vs.length = ks.length → ks[j]? = some n → putA (ks.zip vs) n q = ks.zip (vs.set j q) := by
  intro vs j hd hl hj
  have hmem : n ∈ keysA (ks.zip vs) := by unfold keysA; rw [List.map_fst_zip (by omega)]; exact List.mem_of_getElem? hj
  unfold putA
  rw [if_pos (by rw [← getA_isSome]; exact getA_mem.mpr hmem)]
  refine List.ext_getElem? fun i => ?_
  rw [List.getElem?_map]
  by_cases hi : i < ks.length
  · have e1 : (ks.zip vs)[i]? = some (ks[i], vs[i]'(by omega)) := List.getElem?_zip_eq_some.mpr ⟨List.getElem?_eq_getElem hi, List.getElem?_eq_getElem (by omega)⟩
    rw [e1]
    simp only [Option.map_some]
    symm
    rw [List.getElem?_zip_eq_some]
    have hjl := (List.getElem?_eq_some_iff.mp hj).1
    by_cases e : i = j
    · subst e
      rw [List.getElem?_eq_getElem hi] at hj
      have := Option.some.inj hj
      rw [if_pos this]
      exact ⟨List.getElem?_eq_getElem hi, by rw [List.getElem?_set_self (by omega)]⟩
    · have : ¬ ks[i] = n := fun z => by
        rw [List.getElem?_eq_getElem hjl] at hj
        have hj := Option.some.inj hj
        rcases Nat.lt_or_gt_of_ne e with l | l
        · exact List.pairwise_iff_getElem.mp hd i j hi hjl l (z.trans hj.symm)
        · exact List.pairwise_iff_getElem.mp hd j i hjl hi l (hj.trans z.symm)
      rw [if_neg this]
      exact ⟨List.getElem?_eq_getElem hi, by rw [List.getElem?_set_ne (Ne.symm e)]; exact List.getElem?_eq_getElem (by omega)⟩
  · rw [List.getElem?_eq_none (by rw [List.length_zip]; omega), List.getElem?_eq_none (by rw [List.length_zip]; omega)]; rfl
section
variable {K : PySem.W.Frag} {S : MS} {s : Addr} {A : ShA} {M : ShM}
/-- a name gets another list of versions -/
theorem ShAt.recut (h : ShAt K S s A M) {n : Str} {j : Nat} {q : Addr} {p : Str × Vers} (hp : M.rows[j]? = some p) (hpn : p.1 = n) (hq : S q = none) (v : Vers) :
    ShAt K (mup (mup S q (.lst ((versD v).map .im))) A.ad (.dct (kvF MV.mu ((keysA M.rows).zip (A.vers.set j q))))) s { A with vers := A.vers.set j q, T := fun b => if b = q then some (.ver j) else A.T b } { M with rows := M.rows.set j (n, v) } := by
  have ne : ∀ {b : Addr} {o : MO}, S b = some o → b ≠ q := fun e => by rintro rfl; rw [hq] at e; cases e
  have T' : ∀ {b : Addr} {o : MO} {t : Tag}, S b = some o → A.T b = some t → (fun b => if b = q then some (Tag.ver j) else A.T b) b = some t := fun e f => by dsimp only; rw [if_neg (ne e)]; exact f
  have out : ∀ {b : Addr} {o x : MO} {t : Tag}, A.T b = some t → t ≠ .ad → S b = some o → mup (mup S q (.lst ((versD v).map .im))) A.ad x b = some o := fun f g e => by rw [mup_ne (tag_ne f h.td g), mup_ne (ne e)]; exact e
  have hj := (List.getElem?_eq_some_iff.mp hp).1
  have hkeys : keysA (M.rows.set j (n, v)) = keysA M.rows := by
    unfold keysA
    rw [List.map_set]
    refine List.ext_getElem? fun i => ?_
    by_cases e : j = i
    · subst e
      rw [List.getElem?_set_self (by rw [List.length_map]; exact hj), List.getElem?_map, hp, ← hpn]; rfl
    · rw [List.getElem?_set_ne e]
  obtain ⟨dxs, es⟩ := h.s0
  have qad : q ≠ A.ad := Ne.symm (ne h.d0)
  refine ⟨T' es h.ts, T' h.r0 h.tr, T' h.w0 h.tw, T' h.d0 h.td, fun i a e => ?_, fun i R e => ?_, ⟨dxs, out h.ts (by intro z; cases z) es⟩, out h.tr (by intro z; cases z) h.r0, out h.tw (by intro z; cases z) h.w0, ?_, h.lr, ?_, fun i R r e f => ?_, fun i a p e f => ?_⟩
  · have e' : (A.vers.set j q)[i]? = some a := e
    by_cases ji : j = i
    · subst ji
      rw [List.getElem?_set_self (by rw [h.lv]; exact hj)] at e'; cases e'
      dsimp only; rw [if_pos rfl]
    · rw [List.getElem?_set_ne ji] at e'
      have hi : i < M.rows.length := by rw [← h.lv]; exact (List.getElem?_eq_some_iff.mp e').1
      exact T' (h.vr i a _ e' (List.getElem?_eq_getElem hi)) (h.tv i a e')
  · obtain ⟨t1, t2, t3, t4, t5⟩ := h.tR i R e
    have hj : i < M.recs.length := by rw [← h.lr]; exact (List.getElem?_eq_some_iff.mp e).1
    have q := h.rc i R _ e (List.getElem?_eq_getElem hj)
    obtain ⟨dx2, e2⟩ := q.a
    exact ⟨T' e2 t1, T' q.d t2, T' q.p t3, T' q.s t4, T' q.h t5⟩
  · show mup _ A.ad _ A.ad = some (.dct (kvF MV.mu ((keysA (M.rows.set j (n, v))).zip (A.vers.set j q))))
    rw [hkeys, mup_same]
  · show (A.vers.set j q).length = (M.rows.set j (n, v)).length
    rw [List.length_set, List.length_set, h.lv]
  · have q := h.rc i R r e f
    obtain ⟨t1, t2, t3, t4, t5⟩ := h.tR i R e
    obtain ⟨dx2, e2⟩ := q.a
    exact ⟨⟨dx2, out t1 (by intro z; cases z) e2⟩, out t2 (by intro z; cases z) q.d, out t3 (by intro z; cases z) q.p, out t4 (by intro z; cases z) q.s, out t5 (by intro z; cases z) q.h⟩
  · have e' : (A.vers.set j q)[i]? = some a := e
    have f' : (M.rows.set j (n, v))[i]? = some p := f
    by_cases ji : j = i
    · subst ji
      rw [List.getElem?_set_self (by rw [h.lv]; exact hj)] at e'; cases e'
      rw [List.getElem?_set_self hj] at f'; cases f'
      rw [mup_ne qad, mup_same]
    · rw [List.getElem?_set_ne ji] at e' f'
      exact out (h.tv i a e') (by intro z; cases z) (h.vr i a p e' f')
end

section
variable {P : Program} {w : World} {K : PySem.W.Frag} {vs : List V} {H : Hp} {Q : VK} {E : XK}
theorem len_Shelf_sweep (h : sp_Shelf_sweep P w K vs H Q E) : vs.length = 1 := lift_len (by rintro ms S mQ mX ⟨_, _, rfl, _⟩; rfl) h
theorem leastR_take {rs : List RecM} {m i : Nat} {r : RecM} (h : rs[i]? = some r) : leastR (rs.take (i + 1)) m = if r.mood = ("open" : Str) then (if r.start < leastR (rs.take i) m then r.start else leastR (rs.take i) m) else leastR (rs.take i) m := by
  unfold leastR
  rw [List.take_succ, h, List.foldl_append]; rfl
theorem cutN_succ {us : Vers} {m k : Nat} {v : Nat × Val} (h : us[k]? = some v) : cutN us m (k + 1) = if v.1 ≤ m then k else cutN us m k := by
  rw [cutN, h]
  simp
theorem gone_take {rows : List (Str × Vers)} {m i : Nat} {p : Str × Vers} (h : rows[i]? = some p) : goneN m (rows.take (i + 1)) = goneN m (rows.take i) + cutN p.2 m p.2.length := by
  unfold goneN
  rw [List.take_succ, h, List.map_append, List.sum_append]; rfl
end
end Kr
set_option maxHeartbeats 1000000
namespace Kr
open PySem PySem.Spec L2
/-! ### a try, its body and its handlers apart -/
def tTry (tw : WX → TS) (w : Ends → WX) : TS := fun D σ H => tw (w D) D σ H
section
variable {K : PySem.W.Frag} {G0 : Hp} {E : Env} {S : MS} {N : ME}
theorem n_tryOnly {tw : WX → TS} {c : Value} {ts : Addr → Value → Option Addr → TS} (h : ∀ G1 W, Ext G0 G1 → CW K G1 (tryH K G0 N [(c, ts)]) W → EvS K G1 (tw W) E S N) : EvS K G0 (tTry tw fun D => wOnly K c ts (fun _ _ _ _ => False) D) E S N := m_tryOnly h
theorem n_tryMany {tw : WX → TS} {l : List (Value × (Addr → Value → Option Addr → TS))} (h : ∀ G1 W, Ext G0 G1 → CW K G1 (tryH K G0 N l) W → EvS K G1 (tw W) E S N) : EvS K G0 (tTry tw fun D => wMany K (fun _ _ _ _ => False) D l) E S N := m_tryMany h
theorem n_tryAs {tw : WX → TS} {c : Value} {i : Nat} {ts : Addr → Value → Option Addr → TS} (h : ∀ G1 W, Ext G0 G1 → CW K G1 (tryA K G0 N c i ts) W → EvS K G1 (tw W) E S N) : EvS K G0 (tTry tw fun D => wAs K c i ts (fun _ _ _ _ => False) D) E S N := m_tryAs h
/-- a handler that is taken, or not -/
theorem tryH_hit {c cls : Value} {ts : Addr → Value → Option Addr → TS} {r : List (Value × (Addr → Value → Option Addr → TS))} (e : PySem.W.exmOne K cls c = some true) (h : ∀ a, EvS K G0 (ts a cls none) E S N) : tryH K G0 N ((c, ts) :: r) cls E S := ⟨true, e, fun _ => h, fun z => (nomatch z)⟩
theorem tryH_miss {c cls : Value} {ts : Addr → Value → Option Addr → TS} {r : List (Value × (Addr → Value → Option Addr → TS))} (e : PySem.W.exmOne K cls c = some false) (h : tryH K G0 N r cls E S) : tryH K G0 N ((c, ts) :: r) cls E S := ⟨false, e, fun z => (nomatch z), fun _ => h⟩
end
end Kr
set_option maxHeartbeats 1000000
namespace Kr
open PySem PySem.Spec L2
/-! ### a layout: what stands where, by tags -/
def upT {τ : Type} [DecidableEq τ] {β : Type} (f : τ → β) (t : τ) (b : β) : τ → β := fun x => if x = t then b else f x
structure Lay {τ : Type} (S : MS) (A : τ → Addr) (C : τ → Option MO) : Prop where
  get : ∀ t o, C t = some o → S (A t) = some o
  inj : ∀ t u, C t ≠ none → C u ≠ none → A t = A u → t = u
section
variable {τ : Type} [DecidableEq τ] {β : Type} {S S' : MS} {A A' : τ → Addr} {C C' : τ → Option MO} {t u : τ} {o : MO} {p : Addr}
theorem upT_same {f : τ → β} {b : β} : upT f t b t = b := if_pos rfl
theorem upT_ne {f : τ → β} {b : β} (h : u ≠ t) : upT f t b u = f u := if_neg h
theorem Lay.ne (h : Lay S A C) (ht : C t ≠ none) (hu : C u ≠ none) (n : t ≠ u) : A t ≠ A u := fun e => n (h.inj t u ht hu e)
theorem Lay.has (h : Lay S A C) (ht : C t ≠ none) : S (A t) ≠ none := by
  cases e : C t with
  | none => exact absurd e ht
  | some o => rw [h.get t o e]; simp
theorem Lay.sub (h : Lay S A C) (g : Sub S S') : Lay S' A C := ⟨fun t o e => g _ _ (h.get t o e), h.inj⟩
theorem Lay.fresh (h : Lay S A C) (hp : S p = none) : Lay (mup S p o) A C := h.sub (Sub.rfl'.mup hp)
theorem Lay.free (h : Lay S A C) (hp : S p = none) (ht : C t ≠ none) : A t ≠ p := fun e => h.has ht (by rw [e]; exact hp)
theorem Lay.congr (h : Lay S A C) (e : ∀ t, C' t = C t) : Lay S A C' := by
  have : C' = C := funext e
  rw [this]; exact h
theorem Lay.cut (h : Lay S A C) (e : ∀ t o, C' t = some o → C t = some o) : Lay S A C' := by
  have k : ∀ t, C' t ≠ none → C t ≠ none := fun t ht => by
    cases e2 : C' t with
    | none => exact absurd e2 ht
    | some o => rw [e t o e2]; simp
  exact ⟨fun t o g => h.get t o (e t o g), fun t u ht hu => h.inj t u (k t ht) (k u hu)⟩
theorem Lay.put (h : Lay S A C) (ht : C t ≠ none) (o : MO) : Lay (mup S (A t) o) A (upT C t (some o)) := by
  have k : ∀ x, upT C t (some o) x ≠ none → C x ≠ none := fun x hx => by
    by_cases e : x = t
    · rw [e]; exact ht
    · rw [upT_ne e] at hx; exact hx
  refine ⟨fun x o' e => ?_, fun x y hx hy => h.inj x y (k x hx) (k y hy)⟩
  by_cases ex : x = t
  · subst ex
    rw [upT_same] at e; cases e
    exact mup_same
  · rw [upT_ne ex] at e
    rw [mup_ne (h.ne (by rw [e]; simp) ht ex)]
    exact h.get x o' e
theorem Lay.new (h : Lay S A C) (ht : C t = none) (hp : S p = none) (o : MO) : Lay (mup S p o) (upT A t p) (upT C t (some o)) := by
  have k : ∀ x, x ≠ t → upT C t (some o) x ≠ none → C x ≠ none := fun x e hx => by rw [upT_ne e] at hx; exact hx
  refine ⟨fun x o' e => ?_, fun x y hx hy e => ?_⟩
  · by_cases ex : x = t
    · subst ex
      rw [upT_same] at e ⊢; cases e
      exact mup_same
    · rw [upT_ne ex] at e ⊢
      rw [mup_ne (h.free hp (by rw [e]; simp))]
      exact h.get x o' e
  · by_cases ex : x = t
    · by_cases ey : y = t
      · rw [ex, ey]
      · subst ex
        rw [upT_same, upT_ne ey] at e
        exact absurd e.symm (h.free hp (k y ey hy))
    · by_cases ey : y = t
      · subst ey
        rw [upT_same, upT_ne ex] at e
        exact absurd e (h.free hp (k x ex hx))
      · rw [upT_ne ex, upT_ne ey] at e
        exact h.inj x y (k x ex hx) (k y ey hy) e
/-- the same, told by what is wanted behind it -/
theorem Lay.put' (h : Lay S A C) (ht : C t ≠ none) (o : MO) (e : ∀ x, C' x = if x = t then some o else C x) : Lay (mup S (A t) o) A C' := (h.put ht o).congr fun x => e x
theorem Lay.new' (h : Lay S A C) (ht : C t = none) (hp : S p = none) (o : MO) (eA : ∀ x, A' x = if x = t then p else A x) (e : ∀ x, C' x = if x = t then some o else C x) : Lay (mup S p o) A' C' := by
  have : A' = upT A t p := funext eA
  rw [this]
  exact (h.new ht hp o).congr fun x => e x
/-- a call has changed some of it -/
theorem Lay.back (h : Lay S A C) (k : ∀ t, C' t ≠ none → C t ≠ none) (g : ∀ t o, C' t = some o → S' (A t) = some o) : Lay S' A C' := ⟨g, fun t u ht hu => h.inj t u (k t ht) (k u hu)⟩
end
end Kr
set_option maxHeartbeats 2000000
namespace Kr
open PySem PySem.Spec L2
/-! ### what the laws of the shelf have in common -/
def heldOk (d : D) : Prop := ∃ e, d = .tup [e, e] ∧ SeqAt.shaped (toP e) = true
theorem toPs_map {α : Type} (f : α → D) (xs : List α) : toPs (xs.map f) = xs.map fun x => toP (f x) := by
  induction xs with
  | nil => simp [toPs]
  | cons x xs ih => simp [toPs, ih]
theorem strOk_signs {z : Str} (h : signsOk z = true) : PyData.strOk z = true := by
  unfold PyData.strOk
  unfold signsOk at h
  rw [← Array.all_toList, List.all_eq_true]
  rw [List.all_eq_true] at h
  intro c hc
  have h1 := of_decide_eq_true (h c hc)
  have : ∀ c ∈ SIGNS, c < 0x110000 := by decide +kernel
  exact decide_eq_true (this c h1)
theorem toP_pairs (ps : Puts) : toP (.lst (pairsD ps)) = .list (ps.map fun p => .tuple [.str p.1, toP (valD p.2)]) := by
  unfold toP pairsD
  rw [toPs_map]
  congr 1
  refine List.map_congr_left fun p _ => ?_
  obtain ⟨n, v⟩ := p
  cases v <;> simp [pairD, valD, toP, toPs]
theorem canLay_pairs : ∀ ps : Puts, (∀ p ∈ ps, signsOk p.1 = true) → PyData.canLayAll0 (ps.map fun p => .tuple [.str p.1, toP (valD p.2)]) = true
  | [], _ => rfl
  | p :: ps, h => by
    have h1 : PyData.canLay0 (toP (valD p.2)) = true := by cases p.2 <;> simp [valD, toP, PyData.canLay0]
    have h2 := strOk_signs (h p List.mem_cons_self)
    rw [List.map_cons, PyData.canLayAll0, canLay_pairs ps fun q hq => h q (List.mem_cons_of_mem _ hq), Bool.and_true, PyData.canLay0, PyData.canLayAll0, PyData.canLayAll0, PyData.canLayAll0, h1, PyData.canLay0, h2]
    rfl
theorem depth_pairs : ∀ ps : Puts, PyData.depthAll (ps.map fun p => .tuple [.str p.1, toP (valD p.2)]) ≤ 1
  | [] => Nat.zero_le _
  | p :: ps => by
    have h1 : PyData.depth (toP (valD p.2)) = 0 := by cases p.2 <;> simp [valD, toP, PyData.depth]
    have ih := depth_pairs ps
    simp only [List.map_cons, PyData.depthAll, PyData.depth, h1]
    omega
theorem shaped_pairs {ps : Puts} (h : ∀ p ∈ ps, signsOk p.1 = true) : SeqAt.shaped (toP (.lst (pairsD ps))) = true := by
  unfold SeqAt.shaped
  rw [toP_pairs, PyData.canLay0, canLay_pairs ps h, Bool.true_and]
  have := depth_pairs ps
  refine decide_eq_true ?_
  simp only [PyData.depth]
  omega
theorem toP_nats (xs : List Nat) : toP (.lst (dNats xs)) = .list ((xs.map fun (n : Nat) => (n : Int)).map .int) := by
  unfold toP dNats dInts
  rw [toPs_map]
  congr 1
theorem shaped_nats (xs : List Nat) : SeqAt.shaped (toP (.lst (dNats xs))) = true := by rw [toP_nats]; exact PySem.W.ke_shaped_ints _
theorem under_names {left own : Puts} {z : Str} (h1 : ∀ n ∈ keysA left, signsOk n = true) (h2 : ∀ n ∈ keysA own, signsOk n = true) : ∀ p ∈ underA left own z, signsOk p.1 = true := by
  intro p hp
  unfold underA selA at hp
  obtain ⟨n, hn, e⟩ := List.mem_filterMap.mp hp
  split at e
  · cases e
  · cases e
    have := (List.mem_filter.mp hn).1
    rw [mem_srt, List.mem_append] at this
    exact this.elim (h1 n) (h2 n)
theorem nameD_ok {n : Str} (h : NameOk n) : nameD (.str n) = true := by
  have hne : ¬ n = "" := by rintro rfl; exact absurd h.2.1 (by decide +kernel)
  unfold nameD
  dsimp only
  rw [decide_eq_true h.2.2, h.1, decide_eq_false hne]; rfl
theorem headD_ok {n : Str} (h : HeadOk n) : headD (.str n) = true := by
  unfold headD
  dsimp only
  rw [decide_eq_true h.2, h.1]; rfl
theorem valueD_ok {v : Val} (h : ValOk v) : valueD (valD v) = true := by
  cases v with
  | none => rfl
  | some i => unfold valueD valD; dsimp only; rw [decide_eq_true h.1, decide_eq_true h.2]; rfl
theorem okIn_name {n : Str} (h : n.length ≤ 12) : okIn (.str n) := by show n.length ≤ 60000; omega
theorem strsM_at {xs : List Str} {i : Nat} {n : Str} (h : xs[i]? = some n) : atI (dStrs xs) (i : Int) = some (.str n) := by rw [atI_nat]; unfold dStrs; rw [List.getElem?_map, h]; rfl
/-- a name of the pool by a drawn number -/
theorem pool_at {pool : List Str} {d : Int} (h1 : 1 ≤ pool.length) : ∃ n, n ∈ pool ∧ atI (dStrs pool) (d % (pool.length : Int)) = some (.str n) := by
  have h0 := Int.emod_nonneg d (show (pool.length : Int) ≠ 0 by omega)
  have h2 := Int.emod_lt_of_pos d (show (0 : Int) < (pool.length : Int) by omega)
  obtain ⟨k, hk⟩ := Int.eq_ofNat_of_zero_le h0
  rw [hk] at h2 ⊢
  have : k < pool.length := by omega
  exact ⟨pool[k], List.getElem_mem this, strsM_at (List.getElem?_eq_getElem this)⟩
theorem dget_val {left own : Puts} {n : Str} : (((getA own n).map vM).getD ((lkM (kvV left) n).getD (.im .non))) = vM (readA left own n) := by
  rw [lkM_kvF]
  unfold readA
  cases getA own n with
  | some v => rfl
  | none => cases getA left n <;> rfl
theorem zz_ok : signsOk (Str.ofString "zz") = true := by decide +kernel
theorem fm_none {α β : Type} (xs : List α) : xs.filterMap (fun _ => (none : Option β)) = [] := by induction xs with
  | nil => rfl
  | cons x xs ih => rw [List.filterMap_cons]; exact ih
theorem im_inj : ∀ {a b : List D}, a.map MV.im = b.map MV.im → a = b
  | [], [], _ => rfl
  | [], _ :: _, h => by cases h
  | _ :: _, [], h => by cases h
  | x :: a, y :: b, h => by
    simp only [List.map_cons, List.cons.injEq] at h
    rw [im_inj h.2]; cases h.1; rfl
theorem toP_vers (vs : Vers) : toP (.lst (versD vs)) = .list (vs.map fun v => .tuple [.int v.1, toP (valD v.2)]) := by
  unfold toP versD
  rw [toPs_map]
  congr 1
  refine List.map_congr_left fun p _ => ?_
  obtain ⟨n, v⟩ := p
  cases v <;> simp [verD, valD, toP, toPs]
theorem canLay_vers : ∀ vs : Vers, PyData.canLayAll0 (vs.map fun v => .tuple [.int v.1, toP (valD v.2)]) = true
  | [] => rfl
  | p :: ps => by
    have h1 : PyData.canLay0 (toP (valD p.2)) = true := by cases p.2 <;> simp [valD, toP, PyData.canLay0]
    rw [List.map_cons, PyData.canLayAll0, canLay_vers ps, Bool.and_true, PyData.canLay0, PyData.canLayAll0, PyData.canLayAll0, PyData.canLayAll0, h1, PyData.canLay0]
    rfl
theorem depth_vers : ∀ vs : Vers, PyData.depthAll (vs.map fun v => .tuple [.int v.1, toP (valD v.2)]) ≤ 1
  | [] => Nat.zero_le _
  | p :: ps => by
    have h1 : PyData.depth (toP (valD p.2)) = 0 := by cases p.2 <;> simp [valD, toP, PyData.depth]
    have ih := depth_vers ps
    simp only [List.map_cons, PyData.depthAll, PyData.depth, h1]
    omega
theorem shaped_vers (vs : Vers) : SeqAt.shaped (toP (.lst (versD vs))) = true := by
  unfold SeqAt.shaped
  rw [toP_vers, PyData.canLay0, canLay_vers vs, Bool.true_and]
  have := depth_vers vs
  refine decide_eq_true ?_
  simp only [PyData.depth]
  omega
end Kr
set_option maxHeartbeats 1000000
namespace Kr
open PySem PySem.Spec L2
/-! ### plain: what one dealing's deeds tell upon a ground -/
theorem selA_congr {xs : List Str} {f g : Str → Val} (h : ∀ x ∈ xs, f x = g x) : selA xs f = selA xs g := by
  unfold selA
  induction xs with
  | nil => rfl
  | cons x xs ih => rw [List.filterMap_cons, List.filterMap_cons, ih fun y hy => h y (List.mem_cons_of_mem _ hy), h x List.mem_cons_self]
theorem zselA_filter {xs : List Str} {f : Str → Val} {p : Str → Bool} (h : ∀ x ∈ xs, p x = false → f x = none) : selA (xs.filter p) f = selA xs f := by
  unfold selA
  induction xs with
  | nil => rfl
  | cons x xs ih =>
    have ih := ih fun y hy => h y (List.mem_cons_of_mem _ hy)
    cases e : p x with
    | true => rw [List.filter_cons_of_pos e, List.filterMap_cons, List.filterMap_cons, ih]
    | false => rw [List.filter_cons_of_neg (by rw [e]; simp), List.filterMap_cons, if_pos (h x List.mem_cons_self e), ih]
theorem zsrt_filt {xs : List Str} (p : Str → Bool) (h : SrtS xs) : SrtS (xs.filter p) := by
  unfold SrtS at h ⊢
  exact h.filter p
/-- of the names under a head, those of which nothing is told do not matter -/
theorem selA_cover {xs ys : List Str} {f : Str → Val} {p : Str → Bool} (h1 : ∀ x ∈ xs, p x = true → x ∉ ys → f x = none) (h2 : ∀ y ∈ ys, p y = true → y ∉ xs → f y = none) : selA ((srt xs).filter p) f = selA ((srt ys).filter p) f := by
  have e : ((srt xs).filter p).filter (fun x => decide (x ∈ ys)) = ((srt ys).filter p).filter (fun x => decide (x ∈ xs)) := srt_uniq (zsrt_filt _ (zsrt_filt _ (srt_srt xs))) (zsrt_filt _ (zsrt_filt _ (srt_srt ys))) fun z => by
    simp only [List.mem_filter, mem_srt, decide_eq_true_iff]
    exact ⟨fun h => ⟨⟨h.2, h.1.2⟩, h.1.1⟩, fun h => ⟨⟨h.2, h.1.2⟩, h.1.1⟩⟩
  have e1 : selA (((srt xs).filter p).filter fun x => decide (x ∈ ys)) f = selA ((srt xs).filter p) f := zselA_filter fun x hx hp => h1 x (mem_srt.mp (List.mem_filter.mp hx).1) (List.mem_filter.mp hx).2 (of_decide_eq_false hp)
  have e2 : selA (((srt ys).filter p).filter fun x => decide (x ∈ xs)) f = selA ((srt ys).filter p) f := zselA_filter fun x hx hp => h2 x (mem_srt.mp (List.mem_filter.mp hx).1) (List.mem_filter.mp hx).2 (of_decide_eq_false hp)
  rw [← e1, ← e2, e]
def UnderOf (g : Str → Val) (h : Str) (ps : Puts) : Prop := ∃ xs : List Str, (∀ n, underB n h = true → g n ≠ none → n ∈ xs) ∧ ps = selA ((srt xs).filter fun n => underB n h) g
theorem UnderOf.is {g : Str → Val} {h : Str} {ps : Puts} (u : UnderOf g h ps) {ys : List Str} (hy : ∀ n, underB n h = true → g n ≠ none → n ∈ ys) : ps = selA ((srt ys).filter fun n => underB n h) g := by
  obtain ⟨xs, hx, rfl⟩ := u
  refine selA_cover (fun x _ hp hn => ?_) (fun y _ hp hn => ?_)
  · cases e : g x with
    | none => rfl
    | some v => exact absurd (hy x hp (by rw [e]; simp)) hn
  · cases e : g y with
    | none => rfl
    | some v => exact absurd (hx y hp (by rw [e]; simp)) hn
theorem UnderOf.congr {g g' : Str → Val} {h : Str} {ps : Puts} (u : UnderOf g h ps) (e : ∀ n, underB n h = true → g n = g' n) : UnderOf g' h ps := by
  obtain ⟨xs, hx, rfl⟩ := u
  refine ⟨xs, fun n hn hg => hx n hn (by rw [e n hn]; exact hg), selA_congr fun x hx => e x (List.mem_filter.mp hx).2⟩
def ownAt (own : Puts) (b : Str → Val) (n : Str) : Val := (getA own n).getD (b n)
/-- the deeds ds, done behind the writes ps upon the ground b, tell what they tell -/
def Tel (b : Str → Val) : Puts → List Deed → Prop
  | _, [] => True
  | ps, .read n v :: ds => v = ownAt (lastA ps) b n ∧ Tel b ps ds
  | ps, .under h qs :: ds => UnderOf (ownAt (lastA ps) b) h qs ∧ Tel b ps ds
  | ps, .write n v :: ds => Tel b (ps ++ [(n, v)]) ds
  | ps, .back k :: ds => Tel b (ps.take k) ds
def stepP (ps : Puts) : Deed → Puts
  | .write n v => ps ++ [(n, v)]
  | .back k => ps.take k
  | _ => ps
def putsOf (ps : Puts) (ds : List Deed) : Puts := ds.foldl stepP ps
def lookD : Puts → List Deed → Str → Prop
  | _, [], _ => False
  | ps, .read n _ :: ds, m => (m = n ∧ getA (lastA ps) n = none) ∨ lookD ps ds m
  | ps, .under h _ :: ds, m => underB m h = true ∨ lookD ps ds m
  | ps, .write n v :: ds, m => lookD (ps ++ [(n, v)]) ds m
  | ps, .back k :: ds, m => lookD (ps.take k) ds m
theorem Tel.congr {b b' : Str → Val} : ∀ {ds : List Deed} {ps : Puts}, (∀ m, lookD ps ds m → b m = b' m) → Tel b ps ds → Tel b' ps ds
  | [], _, _, _ => trivial
  | .read n v :: ds, ps, h, ⟨h1, h2⟩ => by
    refine ⟨?_, Tel.congr (fun m hm => h m (.inr hm)) h2⟩
    rw [h1]; unfold ownAt
    cases e : getA (lastA ps) n with
    | some u => rfl
    | none => exact h n (.inl ⟨rfl, e⟩)
  | .under z qs :: ds, ps, h, ⟨h1, h2⟩ => by
    refine ⟨h1.congr fun n hn => ?_, Tel.congr (fun m hm => h m (.inr hm)) h2⟩
    unfold ownAt
    rw [h n (.inl hn)]
  | .write n v :: ds, ps, h, h2 => Tel.congr (ds := ds) (ps := ps ++ [(n, v)]) h h2
  | .back k :: ds, ps, h, h2 => Tel.congr (ds := ds) (ps := ps.take k) h h2
/-- what the last deed must tell -/
def Last (b : Str → Val) (ps : Puts) : Deed → Prop
  | .read n v => v = ownAt (lastA ps) b n
  | .under h qs => UnderOf (ownAt (lastA ps) b) h qs
  | _ => True
def lookL (ps : Puts) : Deed → Str → Prop
  | .read n _, m => m = n ∧ getA (lastA ps) n = none
  | .under h _, m => underB m h = true
  | _, _ => False
theorem Tel.snoc {b : Str → Val} {d : Deed} : ∀ {ds : List Deed} {ps : Puts}, Tel b ps (ds ++ [d]) ↔ Tel b ps ds ∧ Last b (putsOf ps ds) d
  | [], ps => by
    show Tel b ps [d] ↔ True ∧ Last b ps d
    cases d <;> simp [Tel, Last]
  | .read n v :: ds, ps => by
    show (_ ∧ Tel b ps (ds ++ [d])) ↔ (_ ∧ Tel b ps ds) ∧ Last b (putsOf ps ds) d
    rw [Tel.snoc (ds := ds) (ps := ps), and_assoc]
  | .under z qs :: ds, ps => by
    show (_ ∧ Tel b ps (ds ++ [d])) ↔ (_ ∧ Tel b ps ds) ∧ Last b (putsOf ps ds) d
    rw [Tel.snoc (ds := ds) (ps := ps), and_assoc]
  | .write n v :: ds, ps => Tel.snoc (ds := ds) (ps := ps ++ [(n, v)])
  | .back k :: ds, ps => Tel.snoc (ds := ds) (ps := ps.take k)
theorem lookD_snoc {d : Deed} {m : Str} : ∀ {ds : List Deed} {ps : Puts}, lookD ps (ds ++ [d]) m ↔ lookD ps ds m ∨ lookL (putsOf ps ds) d m
  | [], ps => by
    show lookD ps [d] m ↔ False ∨ lookL ps d m
    cases d <;> simp [lookD, lookL]
  | .read n v :: ds, ps => by
    show (_ ∨ lookD ps (ds ++ [d]) m) ↔ (_ ∨ lookD ps ds m) ∨ lookL (putsOf ps ds) d m
    rw [lookD_snoc (ds := ds) (ps := ps), or_assoc]
  | .under z qs :: ds, ps => by
    show (_ ∨ lookD ps (ds ++ [d]) m) ↔ (_ ∨ lookD ps ds m) ∨ lookL (putsOf ps ds) d m
    rw [lookD_snoc (ds := ds) (ps := ps), or_assoc]
  | .write n v :: ds, ps => lookD_snoc (ds := ds) (ps := ps ++ [(n, v)])
  | .back k :: ds, ps => lookD_snoc (ds := ds) (ps := ps.take k)
theorem putsOf_snoc {ps : Puts} {ds : List Deed} {d : Deed} : putsOf ps (ds ++ [d]) = stepP (putsOf ps ds) d := by unfold putsOf; rw [List.foldl_append]; rfl
/-- a record's own account agrees with its deeds -/
structure RecS (r : RecM) : Prop where
  puts : putsOf [] r.done = r.puts
  look : ∀ m, lookD [] r.done m → r.looked m = true
/-! ### the newest of versions -/
theorem znewest_app (xs ys : Vers) (m : Nat) : newestV (xs ++ ys) m = ys.foldl (fun acc v => if v.1 ≤ m then v.2 else acc) (newestV xs m) := by unfold newestV; rw [List.foldl_append]
theorem znewest_hi {us : Vers} {m : Nat} (h : ∀ v ∈ us, m < v.1) (x : Val) : us.foldl (fun acc v => if v.1 ≤ m then v.2 else acc) x = x := by
  induction us generalizing x with
  | nil => rfl
  | cons v us ih =>
    rw [List.foldl_cons, if_neg (by have := h v List.mem_cons_self; omega)]
    exact ih (fun w hw => h w (List.mem_cons_of_mem _ hw)) x
theorem znewest_lo {us : Vers} {m : Nat} (h : ∀ v ∈ us, v.1 ≤ m) (x : Val) : us.foldl (fun acc v => if v.1 ≤ m then v.2 else acc) x = ((us.getLast?).map (·.2)).getD x := by
  induction us generalizing x with
  | nil => rfl
  | cons v us ih =>
    rw [List.foldl_cons, if_pos (h v List.mem_cons_self), ih (fun w hw => h w (List.mem_cons_of_mem _ hw))]
    cases us with
    | nil => rfl
    | cons w us => rw [List.getLast?_cons_cons]; cases e : (w :: us).getLast? with
      | none => simp at e
      | some z => rfl
def lastV (us : Vers) : Val := (us.getLast?.map (·.2)).getD none
theorem newest_split {xs ys : Vers} {m : Nat} (h1 : ∀ v ∈ xs, v.1 ≤ m) (h2 : ∀ v ∈ ys, m < v.1) : newestV (xs ++ ys) m = lastV xs := by
  rw [znewest_app, znewest_hi h2]
  exact znewest_lo h1 none
theorem newest_lastV {xs : Vers} {m : Nat} (h1 : ∀ v ∈ xs, v.1 ≤ m) : newestV xs m = lastV xs := znewest_lo h1 none
/-! ### who wrote a name, in the row -/
def histX (recs : List RecM) (n : Str) (x : Nat) : Option (Nat × Val) := recs[x]?.bind fun r => (getA r.own n).map fun v => (r.stamp, v)
def histL (recs : List RecM) (l : List Nat) (n : Str) : Vers := l.filterMap (histX recs n)
def valL (recs : List RecM) (l : List Nat) (n : Str) : Val := lastV (histL recs l n)
theorem histL_app {recs : List RecM} {l k : List Nat} {n : Str} : histL recs (l ++ k) n = histL recs l n ++ histL recs k n := List.filterMap_append
theorem histX_at {recs : List RecM} {x : Nat} {r : RecM} {n : Str} (h : recs[x]? = some r) : histX recs n x = (getA r.own n).map fun v => (r.stamp, v) := by unfold histX; rw [h]; rfl
theorem histL_mem {recs : List RecM} {l : List Nat} {n : Str} {v : Nat × Val} (h : v ∈ histL recs l n) : ∃ x ∈ l, ∃ r, recs[x]? = some r ∧ r.stamp = v.1 ∧ getA r.own n = some v.2 := by
  obtain ⟨x, hx, e⟩ := List.mem_filterMap.mp h
  unfold histX at e
  cases e1 : recs[x]? with
  | none => rw [e1] at e; cases e
  | some r =>
    rw [e1] at e
    cases e2 : getA r.own n with
    | none => simp [e2] at e
    | some u =>
      simp [e2] at e
      exact ⟨x, hx, r, e1, by rw [← e], by rw [e2, ← e]⟩
theorem histL_congr {recs recs' : List RecM} {l : List Nat} {n : Str} (h : ∀ x ∈ l, histX recs' n x = histX recs n x) : histL recs' l n = histL recs l n := by
  unfold histL
  induction l with
  | nil => rfl
  | cons x l ih =>
    have ih := ih fun y hy => h y (List.mem_cons_of_mem _ hy)
    have hx := h x List.mem_cons_self
    cases e : histX recs n x with
    | none => rw [List.filterMap_cons_none (hx.trans e), List.filterMap_cons_none e]; exact ih
    | some v => rw [List.filterMap_cons_some (hx.trans e), List.filterMap_cons_some e, ih]
theorem lastV_app {xs ys : Vers} : lastV (xs ++ ys) = if ys = [] then lastV xs else lastV ys := by
  unfold lastV
  cases ys with
  | nil => simp
  | cons y ys =>
    rw [List.getLast?_append, if_neg (by simp)]
    cases e : (y :: ys).getLast? with
    | none => simp at e
    | some z => rfl
/-- what a dealing leaves upon what stood ahead of it -/
theorem valL_snoc {recs : List RecM} {l : List Nat} {x : Nat} {r : RecM} {n : Str} (h : recs[x]? = some r) : valL recs (l ++ [x]) n = (getA r.own n).getD (valL recs l n) := by
  unfold valL
  rw [histL_app, lastV_app]
  have e : histL recs [x] n = ((getA r.own n).map fun v => (r.stamp, v)).toList := by
    unfold histL
    rw [List.filterMap_cons, histX_at h, List.filterMap_nil]
    cases getA r.own n <;> rfl
  rw [e]
  cases getA r.own n with
  | none => simp
  | some v => simp [lastV]
end Kr
set_option maxHeartbeats 1000000
namespace Kr
open PySem PySem.Spec L2
/-! ### plain: the row's order tells what was read -/
theorem zleast_le {rs : List RecM} {m : Nat} : leastR rs m ≤ m ∧ ∀ r ∈ rs, r.mood = "open" → leastR rs m ≤ r.start := by
  unfold leastR
  induction rs generalizing m with
  | nil => exact ⟨Nat.le_refl _, fun r h => (nomatch h)⟩
  | cons x rs ih =>
    rw [List.foldl_cons]
    obtain ⟨h1, h2⟩ := ih (m := if x.mood = ("open" : Str) then (if x.start < m then x.start else m) else m)
    refine ⟨Nat.le_trans h1 ?_, fun r hr ho => ?_⟩
    · split
      · split <;> omega
      · exact Nat.le_refl _
    · rcases List.mem_cons.mp hr with rfl | hr
      · refine Nat.le_trans h1 ?_
        rw [if_pos ho]
        split <;> omega
      · exact h2 r hr ho
theorem zleast_mem {rs : List RecM} {m : Nat} : leastR rs m = m ∨ ∃ r ∈ rs, r.mood = "open" ∧ leastR rs m = r.start := by
  unfold leastR
  induction rs generalizing m with
  | nil => exact .inl rfl
  | cons x rs ih =>
    rw [List.foldl_cons]
    rcases ih (m := if x.mood = ("open" : Str) then (if x.start < m then x.start else m) else m) with h | ⟨r, hr, ho, h⟩
    · by_cases ho : x.mood = ("open" : Str)
      · by_cases hs : x.start < m
        · rw [if_pos ho, if_pos hs] at h ⊢
          exact .inr ⟨x, List.mem_cons_self, ho, h⟩
        · rw [if_pos ho, if_neg hs] at h ⊢
          exact .inl h
      · rw [if_neg ho] at h ⊢
        exact .inl h
    · exact .inr ⟨r, List.mem_cons_of_mem _ hr, ho, h⟩
/-- a bound below all that stay open, and the moment -/
theorem zleast_ge {rs : List RecM} {m k : Nat} (h1 : k ≤ m) (h2 : ∀ r ∈ rs, r.mood = "open" → k ≤ r.start) : k ≤ leastR rs m := by
  rcases zleast_mem (rs := rs) (m := m) with h | ⟨r, hr, ho, h⟩
  · rw [h]; exact h1
  · rw [h]; exact h2 r hr ho
theorem placeIn_some {row ahead behind : List Nat} {p : Nat} (h : placeIn row ahead behind = some p) : p ≤ row.length ∧ (∀ x ∈ row.take p, x ∉ behind) ∧ ∀ x ∈ ahead, x ∈ row.take p := by
  unfold placeIn at h
  dsimp only at h
  split at h
  · next hc =>
    cases h
    rw [List.all_eq_true] at hc
    refine ⟨List.findIdx_le_length, fun x hx => ?_, fun x hx => of_decide_eq_true (hc x hx)⟩
    obtain ⟨k, hk, rfl⟩ := List.getElem_of_mem hx
    rw [List.length_take] at hk
    rw [List.getElem_take]
    have := List.not_of_lt_findIdx (p := fun x => decide (x ∈ behind)) (xs := row) (i := k) (by omega)
    simpa using this
  · cases h
theorem mem_ahead {M : ShM} {r o : RecM} {x : Nat} {n : Str} (hx : x ∈ M.row) (ho : M.recs[x]? = some o) (hn : n ∈ keysA o.own) (h : aheadP r o n = true) : x ∈ M.aheadOf r := by
  unfold ShM.aheadOf
  refine List.mem_flatMap.mpr ⟨x, hx, ?_⟩
  unfold aheadX
  rw [ho]
  exact List.mem_append_left _ (List.mem_map.mpr ⟨n, List.mem_filter.mpr ⟨hn, h⟩, rfl⟩)
theorem mem_aheadL {M : ShM} {r o : RecM} {x : Nat} {n : Str} (hx : x ∈ M.row) (ho : M.recs[x]? = some o) (hn : n ∈ keysA r.own) (h : o.looked n = true) : x ∈ M.aheadOf r := by
  unfold ShM.aheadOf
  refine List.mem_flatMap.mpr ⟨x, hx, ?_⟩
  unfold aheadX
  rw [ho]
  exact List.mem_append_right _ (List.mem_map.mpr ⟨n, List.mem_filter.mpr ⟨hn, h⟩, rfl⟩)
theorem mem_behind {M : ShM} {r o : RecM} {x : Nat} {n : Str} (hx : x ∈ M.row) (ho : M.recs[x]? = some o) (hn : n ∈ keysA o.own) (h : behindP r o n = true) : x ∈ M.behindOf r := by
  unfold ShM.behindOf
  refine List.mem_flatMap.mpr ⟨x, hx, ?_⟩
  unfold behindX
  rw [ho]
  exact List.mem_map.mpr ⟨n, List.mem_filter.mpr ⟨hn, h⟩, rfl⟩
def ShM.hist (M : ShM) (n : Str) : Vers := histL M.recs M.row n
def ShM.ground (M : ShM) (r : RecM) (n : Str) : Val := newestV (M.vers n) r.start
structure Ser (M : ShM) : Prop where
  row : ∀ x ∈ M.row, ∃ r, M.recs[x]? = some r ∧ r.mood = "kept"
  nd : M.row.Nodup
  kt : ∀ (x : Nat) r, M.recs[x]? = some r → r.mood = "kept" → x ∈ M.row
  st : ∀ r ∈ M.recs, r.stamp ≤ M.row.length ∧ r.start ≤ M.row.length
  rs : ∀ n, (M.hist n).Pairwise fun a b => a.1 < b.1
  vn : ∀ n, ∀ v ∈ M.vers n, v.1 ≤ M.row.length
  v : ∀ n m, M.least ≤ m → newestV (M.vers n) m = newestV (M.hist n) m
  ok : ∀ r ∈ M.recs, RecS r
  op : ∀ r ∈ M.recs, r.mood = "open" → Tel (M.ground r) [] r.done
  kp : ∀ (k x : Nat) r, M.row[k]? = some x → M.recs[x]? = some r → Tel (valL M.recs (M.row.take k)) [] r.done
theorem open_ne_kept : ¬ (("open" : Str) = "kept") := by decide +kernel
theorem kept_ne_open : ¬ (("kept" : Str) = "open") := by decide +kernel
theorem dropped_ne_open : ¬ (("dropped" : Str) = "open") := by decide +kernel
theorem dropped_ne_kept : ¬ (("dropped" : Str) = "kept") := by decide +kernel
theorem Ser.new : Ser ⟨[], [], []⟩ := ⟨fun x h => (nomatch h), List.nodup_nil, fun x r h => (nomatch h), fun r h => (nomatch h), fun n => List.Pairwise.nil, fun n v h => (nomatch h), fun n m _ => rfl, fun r h => (nomatch h), fun r h => (nomatch h), fun k x r h => (nomatch h)⟩
section
variable {M : ShM} {i : Nat} {r r' : RecM} {n : Str}
theorem set_get {recs : List RecM} {i k : Nat} {r' x : RecM} (hi : i < recs.length) (h : (recs.set i r')[k]? = some x) : (k = i ∧ x = r') ∨ (k ≠ i ∧ recs[k]? = some x) := by
  by_cases e : i = k
  · subst e; rw [List.getElem?_set_self hi] at h; exact .inl ⟨rfl, (Option.some.inj h).symm⟩
  · rw [List.getElem?_set_ne e] at h; exact .inr ⟨Ne.symm e, h⟩
theorem mem_set {recs : List RecM} {i : Nat} {r' x : RecM} (hi : i < recs.length) (h : x ∈ recs.set i r') : x = r' ∨ x ∈ recs := by
  rcases List.mem_or_eq_of_mem_set h with h | h
  · exact .inr h
  · exact .inl h
/-- one that is open, or dropped, is not in the row -/
theorem Ser.out (h : Ser M) (hr : M.recs[i]? = some r) (ho : r.mood ≠ "kept") : i ∉ M.row := fun hm => by
  obtain ⟨r2, h1, h2⟩ := h.row i hm
  rw [hr] at h1; cases h1; exact ho h2
theorem histX_out {recs : List RecM} {x : Nat} (hx : x ≠ i) : histX (recs.set i r') n x = histX recs n x := by unfold histX; rw [List.getElem?_set_ne (Ne.symm hx)]
theorem histL_out {recs : List RecM} {l : List Nat} (hx : i ∉ l) : histL (recs.set i r') l n = histL recs l n := histL_congr fun x hm => histX_out (by rintro rfl; exact hx hm)
theorem valL_out {recs : List RecM} {l : List Nat} (hx : i ∉ l) : valL (recs.set i r') l n = valL recs l n := by unfold valL; rw [histL_out hx]
/-- an open one goes on: what changes stands in its own record -/
theorem Ser.set (h : Ser M) (hr : M.recs[i]? = some r) (ho : r.mood = "open") (hs : r'.start = r.start) (ht : r'.stamp = r.stamp) (hm : r'.mood = "open" ∨ r'.mood = "dropped") (hk : RecS r') (hp : r'.mood = "open" → Tel (M.ground r) [] r'.done) : Ser (M.setRec i r') := by
  have hi := (List.getElem?_eq_some_iff.mp hr).1
  have hmem := List.mem_of_getElem? hr
  have hout : i ∉ M.row := h.out hr (by rw [ho]; exact open_ne_kept)
  have hmk : r'.mood ≠ "kept" := hm.elim (fun e => by rw [e]; exact open_ne_kept) (fun e => by rw [e]; exact dropped_ne_kept)
  have hist : ∀ n, (M.setRec i r').hist n = M.hist n := fun n => histL_out hout
  have hl : M.least ≤ (M.setRec i r').least := by
    unfold ShM.least
    refine zleast_ge zleast_le.1 fun x hx hxo => ?_
    rcases mem_set hi hx with rfl | hx
    · rw [hs]; exact zleast_le.2 r hmem ho
    · exact zleast_le.2 x hx hxo
  refine ⟨fun x hx => ?_, h.nd, fun x r2 h1 h2 => ?_, fun x hx => ?_, fun n => by rw [hist]; exact h.rs n, h.vn, fun n m hm2 => by rw [hist]; exact h.v n m (Nat.le_trans hl hm2), fun x hx => ?_, fun x hx hxo => ?_, fun k x r2 h1 h2 => ?_⟩
  · obtain ⟨r2, h1, h2⟩ := h.row x hx
    have : i ≠ x := by rintro rfl; exact hout hx
    exact ⟨r2, by show (M.recs.set i r')[x]? = _; rw [List.getElem?_set_ne this]; exact h1, h2⟩
  · rcases set_get hi h1 with ⟨rfl, rfl⟩ | ⟨_, h1⟩
    · exact absurd h2 hmk
    · exact h.kt x r2 h1 h2
  · rcases mem_set hi hx with rfl | hx
    · rw [hs, ht]; exact h.st r hmem
    · exact h.st x hx
  · rcases mem_set hi hx with rfl | hx
    · exact hk
    · exact h.ok x hx
  · rcases mem_set hi hx with rfl | hx
    · have e : (M.setRec i x).ground x = M.ground r := by funext n; show newestV (M.vers n) x.start = _; rw [hs]; rfl
      rw [e]; exact hp hxo
    · exact h.op x hx hxo
  · have hxr : x ∈ M.row := List.mem_of_getElem? h1
    rcases set_get hi h2 with ⟨rfl, _⟩ | ⟨_, h2⟩
    · exact absurd hxr hout
    · have e : valL (M.setRec i r').recs ((M.setRec i r').row.take k) = valL M.recs (M.row.take k) := by
        funext n
        exact valL_out fun hm => hout (List.mem_of_mem_take hm)
      rw [e]; exact h.kp k x r2 h1 h2
theorem looked_read {r : RecM} {n m : Str} {ds : List Deed} {sn : List (Str × Unit)} (h : r.looked m = true) (hs : ∀ x, (getA r.seen x).isSome = true → (getA sn x).isSome = true) : RecM.looked { r with seen := sn, done := ds } m = true := by
  unfold RecM.looked lookedB at h ⊢
  rw [Bool.or_eq_true] at h ⊢
  exact h.imp (hs m) id
theorem Ser.readAt (h : Ser M) (hr : M.recs[i]? = some r) (ho : r.mood = "open") (n : Str) : Ser (M.readAt i r n) := by
  have hmem := List.mem_of_getElem? hr
  have ok := h.ok r hmem
  refine h.set hr ho rfl rfl (.inl ho) ⟨?_, fun m hm => ?_⟩ fun _ => ?_
  · show putsOf [] (r.done ++ [_]) = r.puts
    rw [putsOf_snoc, ok.puts]; rfl
  · have hm : lookD [] (r.done ++ [.read n (M.seenBy r n)]) m := hm
    rw [lookD_snoc, ok.puts] at hm
    rcases hm with hm | ⟨rfl, hm⟩
    · refine looked_read (n := n) (ok.look m hm) fun x hx => ?_
      split
      · exact hx
      · rw [getA_put]; split
        · rfl
        · exact hx
    · have hno : ¬ (getA r.own m).isSome = true := by show ¬ (getA (lastA r.puts) m).isSome = true; rw [hm]; simp
      unfold RecM.looked lookedB
      dsimp only
      rw [if_neg hno, getA_put, if_pos rfl]; rfl
  · show Tel _ [] (r.done ++ [_])
    rw [Tel.snoc, ok.puts]
    exact ⟨h.op r hmem ho, rfl⟩
theorem Ser.underAt (h : Ser M) (hr : M.recs[i]? = some r) (ho : r.mood = "open") (z : Str) : Ser (M.underAt i r z) := by
  have hmem := List.mem_of_getElem? hr
  have ok := h.ok r hmem
  refine h.set hr ho rfl rfl (.inl ho) ⟨?_, fun m hm => ?_⟩ fun _ => ?_
  · show putsOf [] (r.done ++ [_]) = r.puts
    rw [putsOf_snoc, ok.puts]; rfl
  · have hm : lookD [] (r.done ++ [.under z (M.underOf r z)]) m := hm
    rw [lookD_snoc, ok.puts] at hm
    have key : ∀ q : Str × Unit, (q ∈ r.heads ∨ q = (z, ())) → ∃ q2 ∈ putA r.heads z (), q2.1 = q.1 := fun q hq => by
      have : q.1 ∈ keysA (putA r.heads z ()) := by
        rw [mem_keys_put]
        rcases hq with hq | rfl
        · exact .inr (List.mem_map.mpr ⟨q, hq, rfl⟩)
        · exact .inl rfl
      obtain ⟨q2, h1, h2⟩ := List.mem_map.mp this
      exact ⟨q2, h1, h2⟩
    unfold RecM.looked lookedB
    rw [Bool.or_eq_true, List.any_eq_true]
    rcases hm with hm | hm
    · have := ok.look m hm
      unfold RecM.looked lookedB at this
      rw [Bool.or_eq_true, List.any_eq_true] at this
      rcases this with this | ⟨q, hq, hu⟩
      · exact .inl this
      · obtain ⟨q2, g1, g2⟩ := key q (.inl hq)
        exact .inr ⟨q2, g1, by rw [g2]; exact hu⟩
    · obtain ⟨q2, g1, g2⟩ := key (z, ()) (.inr rfl)
      exact .inr ⟨q2, g1, by rw [g2]; exact hm⟩
  · show Tel _ [] (r.done ++ [_])
    rw [Tel.snoc, ok.puts]
    refine ⟨h.op r hmem ho, keysA M.rows ++ keysA r.own, fun n _ hn => ?_, rfl⟩
    unfold ownAt at hn
    rw [List.mem_append]
    cases e : getA (lastA r.puts) n with
    | some v => exact .inr (getA_mem.mp (by show (getA (lastA r.puts) n).isSome = true; rw [e]; rfl))
    | none =>
      rw [e] at hn
      refine .inl ?_
      by_cases hk : n ∈ keysA M.rows
      · exact hk
      · exfalso; apply hn
        show newestV (M.vers n) r.start = none
        unfold ShM.vers
        rw [getA_none.mpr hk]; rfl
theorem Ser.writeAt (h : Ser M) (hr : M.recs[i]? = some r) (ho : r.mood = "open") (n : Str) (v : Val) : Ser (M.writeAt i r n v) := by
  have hmem := List.mem_of_getElem? hr
  have ok := h.ok r hmem
  refine h.set hr ho rfl rfl (.inl ho) ⟨?_, fun m hm => ?_⟩ fun _ => ?_
  · show putsOf [] (r.done ++ [_]) = r.puts ++ _
    rw [putsOf_snoc, ok.puts]; rfl
  · have hm : lookD [] (r.done ++ [.write n v]) m := hm
    rw [lookD_snoc] at hm
    exact ok.look m (hm.elim id False.elim)
  · show Tel _ [] (r.done ++ [_])
    rw [Tel.snoc]
    exact ⟨h.op r hmem ho, trivial⟩
theorem Ser.backAt (h : Ser M) (hr : M.recs[i]? = some r) (ho : r.mood = "open") (k : Nat) : Ser (M.backAt i r k) := by
  have hmem := List.mem_of_getElem? hr
  have ok := h.ok r hmem
  refine h.set hr ho rfl rfl (.inl ho) ⟨?_, fun m hm => ?_⟩ fun _ => ?_
  · show putsOf [] (r.done ++ [_]) = r.puts.take k
    rw [putsOf_snoc, ok.puts]; rfl
  · have hm : lookD [] (r.done ++ [.back k]) m := hm
    rw [lookD_snoc] at hm
    exact ok.look m (hm.elim id False.elim)
  · show Tel _ [] (r.done ++ [_])
    rw [Tel.snoc]
    exact ⟨h.op r hmem ho, trivial⟩
theorem Ser.dropAt (h : Ser M) (hr : M.recs[i]? = some r) (ho : r.mood = "open") : Ser (M.dropAt i r) := by
  have ok := h.ok r (List.mem_of_getElem? hr)
  exact h.set hr ho rfl rfl (.inr rfl) ⟨ok.puts, ok.look⟩ fun e => absurd e dropped_ne_open
theorem Ser.begun (h : Ser M) : Ser M.begun := by
  have old : ∀ {x : Nat}, x ∈ M.row → x < M.recs.length := fun {x} hx => by
    obtain ⟨r, h1, _⟩ := h.row x hx
    exact (List.getElem?_eq_some_iff.mp h1).1
  have get : ∀ {x : Nat}, x < M.recs.length → M.begun.recs[x]? = M.recs[x]? := fun {x} hx => List.getElem?_append_left hx
  have cases_ : ∀ {x : Nat} {r : RecM}, M.begun.recs[x]? = some r → (M.recs[x]? = some r) ∨ r = newRec M.row.length := fun {x r} e => by
    by_cases hx : x < M.recs.length
    · rw [get hx] at e; exact .inl e
    · right
      have : r ∈ M.recs ++ [newRec M.row.length] := List.mem_of_getElem? e
      have e' : (M.recs ++ [newRec M.row.length])[x]? = some r := e
      rw [List.getElem?_append_right (by omega)] at e'
      have := List.mem_of_getElem? e'
      exact List.mem_singleton.mp this
  have memC : ∀ {r : RecM}, r ∈ M.begun.recs → r ∈ M.recs ∨ r = newRec M.row.length := fun {r} hr => by
    rcases List.mem_append.mp (show r ∈ M.recs ++ [newRec M.row.length] from hr) with h | h
    · exact .inl h
    · exact .inr (List.mem_singleton.mp h)
  have hX : ∀ {x : Nat} {n : Str}, x < M.recs.length → histX M.begun.recs n x = histX M.recs n x := fun {x n} hx => by unfold histX; rw [get hx]
  have hL : ∀ {l : List Nat} {n : Str}, (∀ x ∈ l, x ∈ M.row) → histL M.begun.recs l n = histL M.recs l n := fun {l n} hl => histL_congr fun x hx => hX (old (hl x hx))
  have hl : M.begun.least = M.least := by
    show leastR (M.recs ++ [newRec M.row.length]) M.row.length = leastR M.recs M.row.length
    unfold leastR
    rw [List.foldl_append]
    have hle := (zleast_le (rs := M.recs) (m := M.row.length)).1
    show (if ("open" : Str) = "open" then (if M.row.length < leastR M.recs M.row.length then M.row.length else leastR M.recs M.row.length) else leastR M.recs M.row.length) = leastR M.recs M.row.length
    rw [if_pos rfl, if_neg (by omega)]
  refine ⟨fun x hx => ?_, h.nd, fun x r h1 h2 => ?_, fun x hx => ?_, fun n => ?_, h.vn, fun n m hm => ?_, fun x hx => ?_, fun x hx hxo => ?_, fun k x r h1 h2 => ?_⟩
  · obtain ⟨r, h1, h2⟩ := h.row x hx
    exact ⟨r, by rw [get (old hx)]; exact h1, h2⟩
  · rcases cases_ h1 with h1 | rfl
    · exact h.kt x r h1 h2
    · exact absurd h2 open_ne_kept
  · rcases memC hx with hx | rfl
    · exact h.st x hx
    · exact ⟨Nat.zero_le _, Nat.le_refl _⟩
  · show (histL M.begun.recs M.row n).Pairwise _
    rw [hL fun x hx => hx]; exact h.rs n
  · show newestV (M.vers n) m = newestV (histL M.begun.recs M.row n) m
    rw [hL fun x hx => hx]
    rw [hl] at hm
    exact h.v n m hm
  · rcases memC hx with hx | rfl
    · exact h.ok x hx
    · exact ⟨rfl, fun m hm => hm.elim⟩
  · rcases memC hx with hx | rfl
    · exact h.op x hx hxo
    · exact trivial
  · have hxr : x ∈ M.row := List.mem_of_getElem? h1
    rw [get (old hxr)] at h2
    have e : valL M.begun.recs (M.begun.row.take k) = valL M.recs (M.row.take k) := by
      funext n; unfold valL; rw [show M.begun.row = M.row from rfl, hL (l := M.row.take k) (fun x hx => List.mem_of_mem_take hx)]
    rw [e]; exact h.kp k x r h1 h2
end
end Kr
set_option maxHeartbeats 1000000
namespace Kr
open PySem PySem.Spec L2
section
variable {M : ShM} {i p : Nat} {r : RecM} {n : Str}
/-- of two in the row, what stands in both parts stands twice -/
theorem take_drop_out {row : List Nat} {p x : Nat} (hn : row.Nodup) (h1 : x ∈ row.take p) (h2 : x ∈ row.drop p) : False := by
  have : (row.take p ++ row.drop p).Nodup := by rw [List.take_append_drop]; exact hn
  exact (List.nodup_append.mp this).2.2 x h1 x h2 rfl
theorem mem_row_part {row : List Nat} {p x : Nat} (h : x ∈ row) : x ∈ row.take p ∨ x ∈ row.drop p := by
  rw [← List.take_append_drop p row] at h
  exact List.mem_append.mp h
theorem looked_own {r : RecM} {n : Str} {v : Val} (h : getA r.own n = some v) : n ∈ keysA r.own := getA_mem.mp (by rw [h]; rfl)
/-- one that is kept -/
theorem Ser.keepAt (h : Ser M) (hr : M.recs[i]? = some r) (ho : r.mood = "open") (hp : M.placeOf r = some p) : Ser (M.keepAt i r p) := by
  have hi := (List.getElem?_eq_some_iff.mp hr).1
  have hmem := List.mem_of_getElem? hr
  have hout : i ∉ M.row := h.out hr (by rw [ho]; exact open_ne_kept)
  have ok := h.ok r hmem
  obtain ⟨hpl, hb, ha⟩ := placeIn_some hp
  have hL : (M.keepAt i r p).row.length = M.row.length + 1 := by
    show (M.row.take p ++ [i] ++ M.row.drop p).length = _
    simp only [List.length_append, List.length_take, List.length_drop, List.length_cons, List.length_nil]; omega
  obtain ⟨r', hr'⟩ : ∃ r' : RecM, r' = { r with stamp := M.row.length + 1, mood := "kept" } := ⟨_, rfl⟩
  have hrecs : (M.keepAt i r p).recs = M.recs.set i r' := by rw [hr']; rfl
  have hrow : (M.keepAt i r p).row = M.row.take p ++ [i] ++ M.row.drop p := rfl
  have own' : r'.own = r.own := by rw [hr']
  have tk : i ∉ M.row.take p := fun hm => hout (List.mem_of_mem_take hm)
  have dp : i ∉ M.row.drop p := fun hm => hout (List.mem_of_mem_drop hm)
  have out : ∀ {l : List Nat} {n : Str}, i ∉ l → histL (M.keepAt i r p).recs l n = histL M.recs l n := fun {l n} hl => by rw [hrecs]; exact histL_out hl
  have vout : ∀ {l : List Nat} {n : Str}, i ∉ l → valL (M.keepAt i r p).recs l n = valL M.recs l n := fun {l n} hl => by unfold valL; rw [out hl]
  have hi' : (M.keepAt i r p).recs[i]? = some r' := by rw [hrecs]; exact List.getElem?_set_self hi
  have one : ∀ n, histL (M.keepAt i r p).recs [i] n = oneVer (M.row.length + 1) (getA r.own n) := fun n => by
    unfold histL
    rw [List.filterMap_cons, histX_at hi', List.filterMap_nil, own', hr']
    cases getA r.own n <;> rfl
  -- those behind the place wrote no name of its own, and looked at none
  have nowr : ∀ x ∈ M.row.drop p, ∀ o, M.recs[x]? = some o → ∀ n, (getA r.own n).isSome = true → getA o.own n = none ∧ o.looked n = false := fun x hx o hxo n hn => by
    have hxr := List.mem_of_mem_drop hx
    constructor
    · cases e : getA o.own n with
      | none => rfl
      | some v => exact (take_drop_out h.nd (ha x (mem_ahead hxr hxo (looked_own e) (by unfold aheadP; rw [hn]; rfl))) hx).elim
    · cases e : o.looked n with
      | false => rfl
      | true => exact (take_drop_out h.nd (ha x (mem_aheadL hxr hxo (getA_mem.mp hn) e)) hx).elim
  have dropN : ∀ n, (getA r.own n).isSome = true → histL M.recs (M.row.drop p) n = [] := fun n hn => by
    cases e : histL M.recs (M.row.drop p) n with
    | nil => rfl
    | cons v vs =>
      obtain ⟨x, hx, o, hxo, _, hv⟩ := histL_mem (show v ∈ histL M.recs (M.row.drop p) n by rw [e]; exact List.mem_cons_self)
      rw [(nowr x hx o hxo n hn).1] at hv; cases hv
  have hsp : ∀ n, M.hist n = histL M.recs (M.row.take p) n ++ histL M.recs (M.row.drop p) n := fun n => by
    unfold ShM.hist
    rw [← histL_app, List.take_append_drop]
  have hist' : ∀ n, (M.keepAt i r p).hist n = M.hist n ++ oneVer (M.row.length + 1) (getA r.own n) := fun n => by
    rw [hsp]
    show histL (M.keepAt i r p).recs (M.row.take p ++ [i] ++ M.row.drop p) n = _
    rw [histL_app, histL_app, out tk, out dp, one]
    cases e : getA r.own n with
    | none => simp [oneVer]
    | some v => rw [dropN n (by rw [e]; rfl)]; simp
  have hls : ∀ n, ∀ v ∈ M.hist n, v.1 ≤ M.row.length := fun n v hv => by
    obtain ⟨x, hx, o, hxo, hs, _⟩ := histL_mem hv
    rw [← hs]; exact (h.st o (List.mem_of_getElem? hxo)).1
  have hlst : M.least ≤ (M.keepAt i r p).least := by
    unfold ShM.least
    rw [hL, hrecs]
    refine zleast_ge (Nat.le_succ_of_le zleast_le.1) fun x hx hxo => ?_
    rcases mem_set hi hx with rfl | hx
    · rw [hr'] at hxo; exact absurd hxo kept_ne_open
    · exact zleast_le.2 x hx hxo
  -- what it read is what stands ahead of its place
  have ground : ∀ m, r.looked m = true → M.ground r m = valL M.recs (M.row.take p) m := fun m hm => by
    show newestV (M.vers m) r.start = _
    rw [h.v m r.start (zleast_le.2 r hmem ho), hsp]
    refine newest_split (fun v hv => ?_) (fun v hv => ?_)
    · obtain ⟨x, hx, o, hxo, hs, hv⟩ := histL_mem hv
      by_cases hc : v.1 ≤ r.start
      · exact hc
      · exfalso
        refine hb x hx (mem_behind (List.mem_of_mem_take hx) hxo (looked_own hv) ?_)
        unfold behindP
        rw [hm, hs, decide_eq_true (by omega)]; rfl
    · obtain ⟨x, hx, o, hxo, hs, hv⟩ := histL_mem hv
      by_cases hc : v.1 ≤ r.start
      · exfalso
        refine take_drop_out h.nd (ha x (mem_ahead (List.mem_of_mem_drop hx) hxo (looked_own hv) ?_)) hx
        unfold aheadP
        rw [hm, hs, decide_eq_true hc, Bool.or_eq_true]; exact .inr rfl
      · omega
  refine ⟨fun x hx => ?_, ?_, fun x r2 h1 h2 => ?_, fun x hx => ?_, fun n => ?_, fun n v hv => ?_, fun n m hm => ?_, fun x hx => ?_, fun x hx hxo => ?_, fun k x r2 h1 h2 => ?_⟩
  · rw [hrow] at hx
    rw [hrecs]
    by_cases e : i = x
    · subst e; exact ⟨r', List.getElem?_set_self hi, by rw [hr']⟩
    · have : x ∈ M.row := by
        rcases List.mem_append.mp hx with hx | hx
        · rcases List.mem_append.mp hx with hx | hx
          · exact List.mem_of_mem_take hx
          · exact absurd (List.mem_singleton.mp hx).symm e
        · exact List.mem_of_mem_drop hx
      obtain ⟨r2, h1, h2⟩ := h.row x this
      exact ⟨r2, by rw [List.getElem?_set_ne e]; exact h1, h2⟩
  · rw [hrow]
    have hn : (M.row.take p ++ M.row.drop p).Nodup := by rw [List.take_append_drop]; exact h.nd
    obtain ⟨a1, a2, a3⟩ := List.nodup_append.mp hn
    refine List.nodup_append.mpr ⟨List.nodup_append.mpr ⟨a1, by simp, fun a ha b hb e => ?_⟩, a2, fun a ha b hb e => ?_⟩
    · rw [List.mem_singleton.mp hb] at e; rw [e] at ha; exact tk ha
    · rcases List.mem_append.mp ha with ha | ha
      · exact a3 a ha b hb e
      · rw [List.mem_singleton.mp ha] at e; rw [← e] at hb; exact dp hb
  · rw [hrecs] at h1
    rw [hrow]
    rcases set_get hi h1 with ⟨rfl, _⟩ | ⟨_, h1⟩
    · simp
    · rcases mem_row_part (p := p) (h.kt x r2 h1 h2) with hx | hx
      · exact List.mem_append_left _ (List.mem_append_left _ hx)
      · exact List.mem_append_right _ hx
  · rw [hrecs] at hx
    rw [hL]
    rcases mem_set hi hx with rfl | hx
    · rw [hr']; exact ⟨Nat.le_refl _, Nat.le_succ_of_le (h.st r hmem).2⟩
    · exact ⟨Nat.le_succ_of_le (h.st x hx).1, Nat.le_succ_of_le (h.st x hx).2⟩
  · rw [hist']
    refine List.pairwise_append.mpr ⟨h.rs n, ?_, fun a ha b hb => ?_⟩
    · cases getA r.own n with
      | none => exact List.Pairwise.nil
      | some v => exact List.pairwise_singleton _ _
    · cases e : getA r.own n with
      | none => rw [e] at hb; cases hb
      | some v =>
        rw [e] at hb
        have hb : b ∈ [(M.row.length + 1, v)] := hb
        rw [List.mem_singleton.mp hb]
        exact Nat.lt_succ_of_le (hls n a ha)
  · rw [hL]
    rw [ShM.vers_keep] at hv
    rcases List.mem_append.mp hv with hv | hv
    · exact Nat.le_succ_of_le (h.vn n v hv)
    · cases e : getA r.own n with
      | none => rw [e] at hv; cases hv
      | some u =>
        rw [e] at hv
        have hv : v ∈ [(M.row.length + 1, u)] := hv
        rw [List.mem_singleton.mp hv]; exact Nat.le_refl _
  · rw [hist', ShM.vers_keep, znewest_app, znewest_app, h.v n m (Nat.le_trans hlst hm)]
  · rw [hrecs] at hx
    rcases mem_set hi hx with rfl | hx
    · rw [hr']; exact ⟨ok.puts, ok.look⟩
    · exact h.ok x hx
  · rw [hrecs] at hx
    rcases mem_set hi hx with rfl | hx
    · rw [hr'] at hxo; exact absurd hxo kept_ne_open
    · have e : (M.keepAt i r p).ground x = M.ground x := by
        funext n
        show newestV ((M.keepAt i r p).vers n) x.start = newestV (M.vers n) x.start
        rw [ShM.vers_keep, znewest_app]
        refine znewest_hi (fun v hv => ?_) _
        cases e : getA r.own n with
        | none => rw [e] at hv; cases hv
        | some u =>
          rw [e] at hv
          have hv : v ∈ [(M.row.length + 1, u)] := hv
          rw [List.mem_singleton.mp hv]; exact Nat.lt_succ_of_le (h.st x hx).2
      rw [e]; exact h.op x hx hxo
  · rw [hrow] at h1
    have htl : (M.row.take p).length = p := by rw [List.length_take]; omega
    rcases Nat.lt_trichotomy k p with hk | rfl | hk
    · -- ahead of the place
      rw [List.append_assoc, List.getElem?_append_left (by rw [htl]; exact hk), List.getElem?_take_of_lt hk] at h1
      have hxr : x ∈ M.row := List.mem_of_getElem? h1
      rw [hrecs] at h2
      rcases set_get hi h2 with ⟨rfl, _⟩ | ⟨_, h2⟩
      · exact absurd hxr hout
      · have et : (M.keepAt i r p).row.take k = M.row.take k := by
          rw [hrow, List.append_assoc, List.take_append_of_le_length (by rw [htl]; omega), List.take_take, Nat.min_eq_left (by omega)]
        have e : valL (M.keepAt i r p).recs ((M.keepAt i r p).row.take k) = valL M.recs (M.row.take k) := by
          rw [et]; funext n; exact vout fun hm => hout (List.mem_of_mem_take hm)
        rw [e]; exact h.kp k x r2 h1 h2
    · -- the one that is kept
      have hx : x = i := by
        rw [List.append_assoc, List.getElem?_append_right (by rw [htl]; exact Nat.le_refl _), htl, Nat.sub_self] at h1
        simpa using h1.symm
      subst hx
      rw [hi'] at h2; cases h2
      have et : (M.keepAt x r k).row.take k = M.row.take k := by
        rw [hrow, List.append_assoc, List.take_append_of_le_length (by rw [htl]; exact Nat.le_refl _), List.take_take, Nat.min_self]
      have e : valL (M.keepAt x r k).recs ((M.keepAt x r k).row.take k) = valL M.recs (M.row.take k) := by
        rw [et]; funext n; exact vout tk
      rw [e]
      have : r'.done = r.done := by rw [hr']
      rw [this]
      exact (h.op r hmem ho).congr fun m hm => ground m (ok.look m hm)
    · -- behind the place
      obtain ⟨j, rfl⟩ : ∃ j, k = p + 1 + j := ⟨k - (p + 1), by omega⟩
      have hl1 : (M.row.take p ++ [i]).length = p + 1 := by rw [List.length_append, htl]; rfl
      rw [List.getElem?_append_right (by rw [hl1]; omega), hl1, show p + 1 + j - (p + 1) = j by omega, List.getElem?_drop] at h1
      have hxd : x ∈ M.row.drop p := List.mem_of_getElem? (by rw [List.getElem?_drop]; exact h1)
      have hxr := List.mem_of_mem_drop hxd
      rw [hrecs] at h2
      rcases set_get hi h2 with ⟨rfl, _⟩ | ⟨_, h2⟩
      · exact absurd hxr hout
      · have et : (M.keepAt i r p).row.take (p + 1 + j) = M.row.take p ++ [i] ++ (M.row.drop p).take j := by
          rw [hrow, List.take_append, hl1, List.take_of_length_le (by rw [hl1]; omega), show p + 1 + j - (p + 1) = j by omega]
        have eo : M.row.take (p + j) = M.row.take p ++ (M.row.drop p).take j := by rw [List.take_add]
        refine (h.kp (p + j) x r2 h1 h2).congr fun m hm => ?_
        have hlk := (h.ok r2 (List.mem_of_getElem? h2)).look m hm
        have hno : getA r.own m = none := by
          cases e : getA r.own m with
          | none => rfl
          | some v =>
            have := (nowr x hxd r2 h2 m (by rw [e]; rfl)).2
            rw [hlk] at this; cases this
        unfold valL
        rw [et, eo, histL_app, histL_app, histL_app, out tk, one, hno, out fun hm => hout (List.mem_of_mem_drop (List.mem_of_mem_take hm))]
        simp [oneVer]
/-- all kept ones, and the values -/
theorem Ser.value (h : Ser M) (n : Str) : M.value n = valL M.recs M.row n := by
  show newestV (M.vers n) M.row.length = _
  rw [h.v n _ zleast_le.1]
  refine newest_lastV fun v hv => ?_
  obtain ⟨x, hx, o, hxo, hs, _⟩ := histL_mem hv
  rw [← hs]; exact (h.st o (List.mem_of_getElem? hxo)).1
/-- the numbers of each name's versions rise, from one on -/
structure VrOk (M : ShM) : Prop where
  ris : ∀ n, (M.vers n).Pairwise fun a b => a.1 < b.1
  pos : ∀ n, ∀ v ∈ M.vers n, 1 ≤ v.1
theorem VrOk.new : VrOk ⟨[], [], []⟩ := ⟨fun n => List.Pairwise.nil, fun n v h => (nomatch h)⟩
theorem VrOk.rows {M' : ShM} (h : VrOk M) (e : M'.rows = M.rows) : VrOk M' := ⟨fun n => by unfold ShM.vers; rw [e]; exact h.ris n, fun n v hv => by unfold ShM.vers at hv; rw [e] at hv; exact h.pos n v hv⟩
theorem oneVer_mem {st : Nat} {o : Option Val} {v : Nat × Val} (h : v ∈ oneVer st o) : v.1 = st := by
  cases o with
  | none => cases h
  | some u =>
    have h : v ∈ [(st, u)] := h
    rw [List.mem_singleton.mp h]
theorem VrOk.keepAt (h : VrOk M) (s : Ser M) : VrOk (M.keepAt i r p) := by
  refine ⟨fun n => ?_, fun n v hv => ?_⟩
  · rw [ShM.vers_keep]
    refine List.pairwise_append.mpr ⟨h.ris n, ?_, fun a ha b hb => ?_⟩
    · cases getA r.own n with
      | none => exact List.Pairwise.nil
      | some v => exact List.pairwise_singleton _ _
    · rw [oneVer_mem hb]; exact Nat.lt_succ_of_le (s.vn n a ha)
  · rw [ShM.vers_keep] at hv
    rcases List.mem_append.mp hv with hv | hv
    · exact h.pos n v hv
    · rw [oneVer_mem hv]; omega
end
end Kr
set_option maxHeartbeats 2000000
namespace Kr
open PySem PySem.Spec L2
/-! ### one deed of a dealing -/
structure ExK (K : PySem.W.Frag) : Prop where
  e_DealError_DealError : PySem.W.exmOne K (.ref (He.ga K "DealError")) (.ref (He.ga K "DealError")) = some true
  e_NoDealing_DealError : PySem.W.exmOne K (.ref (He.ga K "NoDealing")) (.ref (He.ga K "DealError")) = some true
  e_Over_DealError : PySem.W.exmOne K (.ref (He.ga K "Over")) (.ref (He.ga K "DealError")) = some true
  e_NoName_DealError : PySem.W.exmOne K (.ref (He.ga K "NoName")) (.ref (He.ga K "DealError")) = some true
  e_NoValue_DealError : PySem.W.exmOne K (.ref (He.ga K "NoValue")) (.ref (He.ga K "DealError")) = some true
  e_NoMark_DealError : PySem.W.exmOne K (.ref (He.ga K "NoMark")) (.ref (He.ga K "DealError")) = some true
  e_Taken_DealError : PySem.W.exmOne K (.ref (He.ga K "Taken")) (.ref (He.ga K "DealError")) = some true
  e_Late_DealError : PySem.W.exmOne K (.ref (He.ga K "Late")) (.ref (He.ga K "DealError")) = some true
  e_Crossed_DealError : PySem.W.exmOne K (.ref (He.ga K "Crossed")) (.ref (He.ga K "DealError")) = some true

def dealErrs : List Str := ["NoDealing", "Over", "NoName", "NoValue", "NoMark", "Taken", "Late", "Crossed"]
inductive Stp (pool : List Str) (M : ShM) (i : Nat) (r : RecM) : ShM → Deed → Prop
  | read {n : Str} : n ∈ pool → Stp pool M i r (M.readAt i r n) (.read n (M.seenBy r n))
  | under {z : Str} : HeadOk z → Stp pool M i r (M.underAt i r z) (.under z (M.underOf r z))
  | write {n : Str} {v : Val} : n ∈ pool → ValOk v → Stp pool M i r (M.writeAt i r n v) (.write n v)
  | back {k : Nat} : k ≤ r.puts.length → Stp pool M i r (M.backAt i r k) (.back k)
def DeedOk (pool : List Str) : Deed → Prop
  | .read n _ => n ∈ pool
  | .under z qs => HeadOk z ∧ ∀ p ∈ qs, signsOk p.1 = true
  | .write n _ => n ∈ pool
  | .back _ => True
theorem under_mem {M : ShM} {r : RecM} {z : Str} {p : Str × Val} (h : p ∈ M.underOf r z) : p.1 ∈ keysA M.rows ∨ p.1 ∈ keysA r.own := by
  unfold ShM.underOf selA at h
  obtain ⟨n, hn, e⟩ := List.mem_filterMap.mp h
  split at e
  · cases e
  · cases e
    have := (List.mem_filter.mp hn).1
    rw [mem_srt, List.mem_append] at this
    exact this
theorem Stp.dk {pool : List Str} {M M' : ShM} {i : Nat} {r : RecM} {d : Deed} {c : Nat} (h : Stp pool M i r M' d) (b : ShB pool c M) (hr : M.recs[i]? = some r) (hp : ∀ n ∈ pool, NameOk n) : DeedOk pool d := by
  cases h with
  | read hn => exact hn
  | under hz =>
    refine ⟨hz, fun p hq => (hp _ ?_).1⟩
    rcases under_mem hq with h | h
    · exact b.nm _ h
    · rw [mem_keys_last] at h
      obtain ⟨x, hx, e⟩ := List.mem_map.mp h
      rw [← e]; exact (b.get hr).nm x hx
  | write hn _ => exact hn
  | back hk => exact trivial
theorem Stp.done {pool : List Str} {M M' : ShM} {i : Nat} {r : RecM} {d : Deed} (h : Stp pool M i r M' d) : ∃ r', M' = M.setRec i r' ∧ r'.done = r.done ++ [d] ∧ r'.mood = r.mood ∧ r'.start = r.start ∧ r'.stamp = r.stamp := by
  cases h <;> exact ⟨_, rfl, rfl, rfl, rfl, rfl⟩
theorem Stp.b {pool : List Str} {M M' : ShM} {i : Nat} {r : RecM} {d : Deed} {c : Nat} (h : Stp pool M i r M' d) (b : ShB pool c M) (hr : M.recs[i]? = some r) : ShB pool (c + 1) M' := by
  cases h with
  | read hn => exact b.readAt hr _
  | under hz => exact b.underAt hr hz
  | write hn _ => exact b.writeAt hr hn _
  | back hk => exact b.backAt hr _
theorem Stp.ser {pool : List Str} {M M' : ShM} {i : Nat} {r : RecM} {d : Deed} (h : Stp pool M i r M' d) (b : Ser M) (hr : M.recs[i]? = some r) (ho : r.mood = "open") : Ser M' := by
  cases h with
  | read hn => exact b.readAt hr ho _
  | under hz => exact b.underAt hr ho _
  | write hn _ => exact b.writeAt hr ho _ _
  | back hk => exact b.backAt hr ho _
theorem going_err {M : ShM} {d : D} {c : Str} (h : M.going d = .error c) : c ∈ dealErrs := by
  unfold ShM.going at h
  split at h
  · cases h; simp [dealErrs]
  · split at h
    · cases h
    · cases h; simp [dealErrs]
/-- a deed as it has just been told -/
def DeedN (S : MS) (d : Deed) (x : MV) (S2 : MS) : Prop := match d with
  | .under z ps => ∃ l t, S l = none ∧ mup S l (.lst ((pairsD ps).map .im)) t = none ∧ x = .mu t ∧ S2 = mup (mup S l (.lst ((pairsD ps).map .im))) t (.tup [.im (.str "under"), .im (.str z), .mu l])
  | _ => x = .im (deedD d) ∧ S2 = S
def mp_l_deed_by (K : PySem.W.Frag) : Mp := fun ms S Q X => ∃ (s : Addr) (pool : List Str) (M : ShM) (who : Nat) (n : Str) (more cell : Int), ms = [.mu s, .im (.int (who : Nat)), .im (.str n), .im (.int more), .im (.int cell)] ∧ S s = some (shO K M) ∧ ShOk M ∧ NameOk n ∧ n ∈ pool ∧
  (∀ c ∈ dealErrs, X (exc K c) S) ∧ ∀ r M' d x S2, M.recs[who]? = some r → r.mood = "open" → Stp pool M who r M' d → DeedN (mup S s (shO K M')) d x S2 → Q x S2
abbrev sp_l_deed_by (_ : Program) (_ : World) (K : PySem.W.Frag) : Sp := lift K (mp_l_deed_by K)
section
variable {P : Program} {w : World} {K : PySem.W.Frag} {vs : List V} {H : Hp} {Q : VK} {E : XK}
theorem len_l_deed_by (h : sp_l_deed_by P w K vs H Q E) : vs.length = 5 := lift_len (by rintro ms S mQ mX ⟨_, _, _, _, _, _, _, rfl, _⟩; rfl) h
theorem okIn_val (v : Val) : okIn (valD v) := by cases v <;> trivial
theorem q_ok : signsOk (Str.ofString "q") = true := by decide +kernel
theorem q_len : (Str.ofString "q").length = 1 := by decide +kernel
def t_l_deed_by_j1 (P : Program) (w : World) (K : PySem.W.Frag) (E : XK) : TS :=
  (tRet (tTup (tCons (tC (.str "under")) (tCons (tVar 5) (tCons (tMeth (He.ga K "Shelf") "under" (sp_Shelf_under P w K) [] E (tVar 0) (tCons (tVar 1) (tCons (tVar 5) tNil))) tNil)))))
def t_l_deed_by (P : Program) (w : World) (K : PySem.W.Frag) (E : XK) : TS :=
  (tSeq (tIfS (tTest (tOp r_lt (tOp r_mod (tVar 3) (tC (.int 16))) (tC (.int 4)))) (tRet (tTup (tCons (tC (.str "read")) (tCons (tVar 2) (tCons (tMeth (He.ga K "Shelf") "read" (sp_Shelf_read P w K) [] E (tVar 0) (tCons (tVar 1) (tCons (tVar 2) tNil))) tNil))))) tNext) (tSeq (tIfS (tTest (tOp r_lt (tOp r_mod (tVar 3) (tC (.int 16))) (tC (.int 7)))) (tSeq (tAsg (tSl rSlS (tVar 2) tNoPart (tPart (tOp r_mod (tOp r_div (tVar 3) (tC (.int 16))) (tOp r_add (tCB c_lenS (tCons (tVar 2) tNil)) (tC (.int 1)))))) (gName 5)) (tSeq (tIfS (tTest (tOp rEq (tOp r_mod (tOp r_div (tVar 3) (tC (.int 208))) (tC (.int 4))) (tC (.int 3)))) (tAsg (tSl rSlS (tOp r_cat (tVar 5) (tC (.str "q"))) tNoPart (tPart (tC (.int 12)))) (gName 5)) tNext) (t_l_deed_by_j1 P w K E))) tNext) (tSeq (tIfS (tTest (tOp r_lt (tOp r_mod (tVar 3) (tC (.int 16))) (tC (.int 12)))) (tSeq (tDrop (tMeth (He.ga K "Shelf") "write" (sp_Shelf_write P w K) [] E (tVar 0) (tCons (tVar 1) (tCons (tVar 2) (tCons (tCall (sp_l_value_by P w K) [] E0 (tCons (tVar 4) tNil)) tNil))))) (tRet (tTup (tCons (tC (.str "write")) (tCons (tVar 2) (tCons (tCall (sp_l_value_by P w K) [] E0 (tCons (tVar 4) tNil)) tNil)))))) tNext) (tSeq (tAsg (tOp r_mod (tOp r_div (tVar 3) (tC (.int 16))) (tOp r_add (tMeth (He.ga K "Shelf") "made" (sp_Shelf_made P w K) [] E (tVar 0) (tCons (tVar 1) tNil)) (tC (.int 1)))) (gName 6)) (tSeq (tDrop (tMeth (He.ga K "Shelf") "back" (sp_Shelf_back P w K) [] E (tVar 0) (tCons (tVar 1) (tCons (tVar 6) tNil)))) (tRet (tTup (tCons (tC (.str "back")) (tCons (tVar 6) tNil)))))))))

theorem rd_l_deed_by (h : sp_l_deed_by P w K vs H Q E) : t_l_deed_by P w K E { nx := fun _ H' => Q .non H', rt := Q } (start ["_law_shelf", "_law_who", "_law_name", "_law_more", "_law_cell", "_law_head", "_law_many"] vs) H := by
  refine rd_X h fun G0 Ex ms S mQ mX hX h => ?_
  obtain ⟨s, pool, M, who, n, more, cell, rfl, hs, ok, hnok, hn, hx, q⟩ := h
  have l12 := hnok.2.2
  have errs : ∀ {c S'}, M.going (.int (who : Nat)) = .error c → S' = S → UpX K mX (exc K c) S' := fun hg e => by rw [e]; exact upX (hx _ (going_err hg))
  have who_ : ∀ {i}, M.going (.int (who : Nat)) = .ok i → i = who := fun hg => by
    have e := (going_ok hg).2
    have e2 : ((who : Nat) : Int) = _ := D.int.inj e
    omega
  unfold t_l_deed_by bodyN
  walk_at "s0"
  walk_at "md"
  refine ⟨fun _ => ?_, fun _ => ?_⟩
  · -- a read
    walk_at "md"
    refine m_tupI ?_
    walk_at "md"
    refine m_meth hX ?_
    walk_at "md"
    refine ⟨s, rfl, i_shO hs (by decide +kernel), ?_⟩
    walk_at "md"
    refine ⟨s, M, _, .str n, rfl, hs, ok, trivial, okIn_name l12, ?_⟩
    cases hg : M.going (.int (who : Nat)) with
    | error c => exact errs hg rfl
    | ok i =>
      obtain rfl := who_ hg
      dsimp only
      rw [if_pos (nameD_ok hnok)]
      intro n' r e1 hr ho
      cases e1
      walk_at "md"
      exact ⟨[.str "read", .str n, valD (M.seenBy r n)], rfl, by simp, up (q r _ _ _ _ hr ho (.read hn) ⟨rfl, rfl⟩)⟩
  walk_at "md"
  refine ⟨fun _ => ?_, fun _ => ?_⟩
  · -- a head is read
    walk_at "md"
    refine m_lenS (by omega) ?_
    walk_at "md"
    obtain ⟨hk, hkk, hkl⟩ : ∃ hk : Nat, more / 16 % ((n.length : Int) + 1) = hk ∧ hk ≤ n.length := by
      have h0 := Int.emod_nonneg (more / 16) (show ((n.length : Int) + 1) ≠ 0 by omega)
      have h2 := Int.emod_lt_of_pos (more / 16) (show (0 : Int) < ((n.length : Int) + 1) by omega)
      exact ⟨(more / 16 % ((n.length : Int) + 1)).toNat, by omega, by omega⟩
    rw [hkk]
    refine m_slS (by omega) ?_
    have hzok : HeadOk (cutS n none (some (hk : Int))) := ⟨signsOk_cut hnok.1, by rw [pre_len]; omega⟩
    generalize cutS n none (some (hk : Int)) = z at hzok ⊢
    have fin : ∀ {z : Str} {nx bk ct}, HeadOk z → EvS K G0 (t_l_deed_by_j1 P w K Ex) [some (.mu s), some (.im (.int (who : Nat))), some (.im (.str n)), some (.im (.int more)), some (.im (.int cell)), some (.im (.str z)), none] S ⟨nx, Up K mQ, bk, ct⟩ := by
      intro z nx bk ct hz
      unfold t_l_deed_by_j1
      walk_at "md"
      refine m_tupM ?_
      walk_at "md"
      refine m_meth hX ?_
      walk_at "md"
      refine ⟨s, rfl, i_shO hs (by decide +kernel), ?_⟩
      walk_at "md"
      refine ⟨s, M, _, .str z, rfl, hs, ok, trivial, okIn_name hz.2, ?_⟩
      cases hg : M.going (.int (who : Nat)) with
      | error c => exact errs hg rfl
      | ok i =>
        obtain rfl := who_ hg
        dsimp only
        rw [if_pos (headD_ok hz)]
        intro z' r e1 hr ho l hl
        cases e1
        have hls : l ≠ s := by rintro rfl; rw [hs] at hl; cases hl
        walk_at "md"
        exact ⟨by simp, fun t ht => up (q r _ _ _ _ hr ho (.under hz) ⟨l, t, by rw [mup_ne hls]; exact hl, ht, rfl, rfl⟩)⟩
    walk_at "md"
    refine ⟨fun _ => ?_, fun _ => ?_⟩
    · walk_at "md"
      refine m_cat (by rw [q_len]; have := hzok.2; omega) ?_
      walk_at "md"
      refine m_slS (by rw [Str.length_append, q_len]; have := hzok.2; omega) ?_
      walk_at "md"
      have hz2 : HeadOk (cutS (z ++ Str.ofString "q") none (some (12 : Int))) := ⟨signsOk_cut (signsOk_append hzok.1 q_ok), by rw [show (12 : Int) = ((12 : Nat) : Int) from rfl, pre_len]; omega⟩
      exact fin hz2
    · walk_at "md"
      exact fin hzok
  walk_at "md"
  refine ⟨fun _ => ?_, fun _ => ?_⟩
  · -- a write
    walk_at "md"
    refine m_meth hX ?_
    walk_at "md"
    refine ⟨s, rfl, i_shO hs (by decide +kernel), ?_⟩
    walk_at "md"
    refine ⟨cell, rfl, ?_⟩
    walk_at "md"
    refine ⟨s, M, _, .str n, valD (valueBy cell), rfl, hs, ok, trivial, okIn_name l12, okIn_val _, ?_⟩
    cases hg : M.going (.int (who : Nat)) with
    | error c => exact errs hg rfl
    | ok i =>
      obtain rfl := who_ hg
      dsimp only
      rw [if_pos (nameD_ok hnok), if_pos (valueD_ok (valueBy_ok cell))]
      intro n' v r e1 e2 hr ho
      cases e1
      cases valD_inj e2
      by_cases ht : M.taken i n = true
      · rw [if_pos ht]; exact upX (hx _ (by simp [dealErrs]))
      · rw [if_neg ht]
        by_cases hl : M.late r n = true
        · rw [if_pos hl]; exact upX (hx _ (by simp [dealErrs]))
        · rw [if_neg hl]
          walk_at "md"
          refine m_tupI ?_
          walk_at "md"
          refine ⟨cell, rfl, ?_⟩
          walk_at "md"
          exact ⟨[.str "write", .str n, valD (valueBy cell)], rfl, by simp, up (q r _ _ _ _ hr ho (.write hn (valueBy_ok cell)) ⟨rfl, rfl⟩)⟩
  · -- back
    walk_at "md"
    refine m_meth hX ?_
    walk_at "md"
    refine ⟨s, rfl, i_shO hs (by decide +kernel), ?_⟩
    walk_at "md"
    refine ⟨s, M, _, rfl, hs, ok, trivial, ?_⟩
    cases hg : M.going (.int (who : Nat)) with
    | error c => exact errs hg rfl
    | ok i =>
      obtain rfl := who_ hg
      dsimp only
      intro r hr ho
      walk_at "md"
      obtain ⟨k, hkk, hkl⟩ : ∃ k : Nat, more / 16 % ((r.puts.length : Int) + 1) = k ∧ k ≤ r.puts.length := by
        have h0 := Int.emod_nonneg (more / 16) (show ((r.puts.length : Int) + 1) ≠ 0 by omega)
        have h2 := Int.emod_lt_of_pos (more / 16) (show (0 : Int) < ((r.puts.length : Int) + 1) by omega)
        exact ⟨(more / 16 % ((r.puts.length : Int) + 1)).toNat, by omega, by omega⟩
      rw [hkk]
      refine m_meth hX ?_
      walk_at "md"
      refine ⟨s, rfl, i_shO hs (by decide +kernel), ?_⟩
      walk_at "md"
      refine ⟨s, M, _, .int k, rfl, hs, ok, trivial, trivial, ?_⟩
      rw [hg]
      dsimp only
      intro r' hr' _
      rw [hr] at hr'; cases hr'
      rw [if_pos (by unfold markB; dsimp only; rw [decide_eq_true (by omega), decide_eq_true (by omega)]; rfl)]
      intro k' e1 _
      have : k' = k := by have := D.int.inj e1; omega
      subst this
      walk_at "md"
      refine m_tupI ?_
      walk_at "md"
      exact ⟨[.str "back", .int k'], rfl, by simp, up (q r _ _ _ _ hr ho (.back hkl) ⟨rfl, rfl⟩)⟩
end
end Kr
set_option maxHeartbeats 2000000
namespace Kr
open PySem PySem.Spec L2
theorem m_or2 {K : PySem.W.Frag} {G0 : Hp} {d : TT} {b1 b2 : Bool} {En : Env} {S : MS} {F : Bool → MS → Prop} (hd : F b2 S → EvT K G0 d En S F) (h : F (b1 || b2) S) : (b1 = false → EvT K G0 d En S F) ∧ (b1 = true → F true S) := by
  cases b1
  · exact ⟨fun _ => hd h, fun h => (nomatch h)⟩
  · exact ⟨fun h => (nomatch h), fun _ => h⟩
theorem m_and2 {K : PySem.W.Frag} {G0 : Hp} {d : TT} {b1 b2 : Bool} {En : Env} {S : MS} {F : Bool → MS → Prop} (hd : F b2 S → EvT K G0 d En S F) (h : F (b1 && b2) S) : (b1 = true → EvT K G0 d En S F) ∧ (b1 = false → F false S) := by
  cases b1
  · exact ⟨fun h => (nomatch h), fun _ => h⟩
  · exact ⟨fun _ => hd h, fun h => (nomatch h)⟩
structure J12 (pool : List Str) (c : Nat) (M : ShM) (told : List (List Deed)) (kept : List Nat) : Prop where
  b : ShB pool c M
  s : Ser M
  t : told = M.recs.map (·.done)
  k : kept.Perm M.row
  dk : ∀ ds ∈ told, ∀ d ∈ ds, DeedOk pool d
  vr : VrOk M
section
variable {pool : List Str} {c c' : Nat} {M M' : ShM} {told : List (List Deed)} {kept : List Nat} {i p : Nat} {r : RecM} {d : Deed}
theorem J12.mono (h : J12 pool c M told kept) (l : c ≤ c') : J12 pool c' M told kept := ⟨h.b.mono l, h.s, h.t, h.k, h.dk, h.vr⟩
theorem J12.len (h : J12 pool c M told kept) : told.length = M.recs.length := by rw [h.t, List.length_map]
theorem J12.get (h : J12 pool c M told kept) (hr : M.recs[i]? = some r) : told[i]? = some r.done := by rw [h.t, List.getElem?_map, hr]; rfl
theorem J12.step (h : J12 pool c M told kept) (hpool : ∀ n ∈ pool, NameOk n) (hr : M.recs[i]? = some r) (ho : r.mood = "open") (st : Stp pool M i r M' d) : J12 pool (c + 1) M' (told.set i (r.done ++ [d])) kept ∧ M'.recs.length = M.recs.length := by
  obtain ⟨r', rfl, hd, _⟩ := st.done
  refine ⟨⟨st.b h.b hr, st.ser h.s hr ho, ?_, h.k, fun ds hds x hx => ?_, h.vr.rows rfl⟩, List.length_set⟩
  rotate_left
  · rcases List.mem_or_eq_of_mem_set hds with hds | rfl
    · exact h.dk ds hds x hx
    · rcases List.mem_append.mp hx with hx | hx
      · exact h.dk _ (List.mem_of_getElem? (h.get hr)) x hx
      · rw [List.mem_singleton.mp hx]; exact st.dk h.b hr hpool
  show _ = (M.recs.set i r').map _
  rw [h.t, List.map_set, hd]
theorem J12.same (h : J12 pool c M told kept) (hr : M.recs[i]? = some r) {r' : RecM} (hd : r'.done = r.done) : told = (M.recs.set i r').map (·.done) := by
  rw [List.map_set, hd, h.t]
  refine List.ext_getElem? fun j => ?_
  by_cases e : i = j
  · subst e
    rw [List.getElem?_set_self (by rw [List.length_map]; exact (List.getElem?_eq_some_iff.mp hr).1), List.getElem?_map, hr]; rfl
  · rw [List.getElem?_set_ne e]
theorem J12.drop (h : J12 pool c M told kept) (hr : M.recs[i]? = some r) (ho : r.mood = "open") : J12 pool (c + 1) (M.dropAt i r) told kept ∧ (M.dropAt i r).recs.length = M.recs.length :=
  ⟨⟨(h.b.dropAt hr).mono (Nat.le_succ c), h.s.dropAt hr ho, h.same hr rfl, h.k, h.dk, h.vr.rows rfl⟩, List.length_set⟩
theorem J12.keep (h : J12 pool c M told kept) (hr : M.recs[i]? = some r) (ho : r.mood = "open") (hp : M.placeOf r = some p) : J12 pool (c + 1) (M.keepAt i r p) told (kept ++ [i]) ∧ (M.keepAt i r p).recs.length = M.recs.length := by
  refine ⟨⟨h.b.keepAt hr p, h.s.keepAt hr ho hp, h.same hr rfl, ?_, h.dk, h.vr.keepAt h.s⟩, List.length_set⟩
  show (kept ++ [i]).Perm (M.row.take p ++ [i] ++ M.row.drop p)
  have h1 : (M.row.take p ++ [i] ++ M.row.drop p).Perm (M.row ++ [i]) := by
    have : (M.row.take p ++ [i] ++ M.row.drop p).Perm (M.row.take p ++ (M.row.drop p ++ [i])) := by
      rw [List.append_assoc]; exact List.Perm.append_left _ List.perm_append_comm
    rw [← List.append_assoc, List.take_append_drop] at this
    exact this
  exact (h.k.append_right [i]).trans h1.symm
theorem J12.begun (h : J12 pool c M told kept) : J12 pool (c + 1) M.begun (told ++ [[]]) kept := ⟨h.b.begun, h.s.begun, by rw [h.t]; show _ = (M.recs ++ [newRec M.row.length]).map _; rw [List.map_append]; rfl, h.k, fun ds hds d hd => (List.mem_append.mp hds).elim (fun g => h.dk ds g d hd) (fun g => by rw [List.mem_singleton.mp g] at hd; cases hd), h.vr.rows rfl⟩
theorem J12.kl (h : J12 pool c M told kept) : kept.length ≤ c := by rw [h.k.length_eq]; exact h.b.row
end
end Kr
set_option maxHeartbeats 2000000
namespace Kr
open PySem PySem.Spec L2
section
variable {K : PySem.W.Frag} {G0 : Hp} {S : MS} {Q : MV → MS → Prop}
theorem m_isiT {a : Addr} {ms : List MV} {n : String} {b : Bool} (hS : S a = some (.tup ms)) (hb : L2.kitB "tuple" n = some b) (h : Q (.im (.bl b)) S) : EvC K G0 (rIsi K) [.mu a, .ty n] S Q := fun G own H v R _ Rp vr cv => by
  obtain ⟨u, hu, us, rfl, ru⟩ := Rp.look hS trivial
  cases vr with
  | cons h1 h2 => cases h2 with
    | cons h2 h3 =>
      cases h3; cases h2; cases h1
      exact ⟨_, _, .type "tuple", .type n, b, rfl, .ty n, .base (.tup hu), kit_ty hb, cv _ H G own _ S Ext.rfl' Rp (vr_bl b) h⟩
theorem m_lenTM {p : Addr} {ms : List MV} (hS : S p = some (.tup ms)) (h : Q (.im (.int ms.length)) S) : EvC K G0 (c_len K) [.mu p] S Q := fun G own H v R _ Rp vr cv => by
  obtain ⟨u, hu, vs, rfl, rv⟩ := Rp.look hS trivial
  cases vr with
  | cons h1 h2 =>
    cases h2
    cases h1
    exact ⟨_, _, rfl, .inr (SqT.of hu), by rw [Paired.length rv]; exact cv _ H G own _ S Ext.rfl' Rp (vr_int _) h⟩
end
/-- a deed, as data or with its list as a cell -/
def DeedV (S : MS) (d : Deed) (m : MV) : Prop := m = .im (deedD d) ∨ ∃ z ps t l, d = .under z ps ∧ m = .mu t ∧ S t = some (.tup [.im (.str "under"), .im (.str z), .mu l]) ∧ S l = some (.lst ((pairsD ps).map .im))
def DeedB (d : Deed) : Prop := ∀ z ps, d = .under z ps → ps.length ≤ 60000
def mp_l_copied : Mp := fun ms S Q _ => ∃ (x : MV) (d : Deed), ms = [x] ∧ DeedV S d x ∧ Q (.im (deedD d)) S
def mp_l_deed_same : Mp := fun ms S Q _ => ∃ (x : MV) (d : Deed), ms = [x, .im (deedD d)] ∧ DeedV S d x ∧ DeedB d ∧ Q (.im (.bl true)) S
def mp_l_deeds_same : Mp := fun ms S Q _ => ∃ (x : MV) (b : Addr) (ns : List MV) (ds : List Deed), ms = [x, .mu b] ∧ (∃ a, x = .mu a ∧ S a = some (.lst ns)) ∧ S b = some (.lst (deedsM ds)) ∧ ns.length = ds.length ∧ ds.length ≤ 60000 ∧ (∀ (j : Nat) d m, ds[j]? = some d → ns[j]? = some m → DeedV S d m) ∧ (∀ d ∈ ds, DeedB d) ∧ Q (.im (.bl true)) S
def mp_l_changed : Mp := fun ms S Q _ => ∃ (a : Addr) (ns : List MV) (ds : List Deed) (S0 : MS), ms = [.mu a] ∧ Kr.Sub S0 S ∧ S0 a = none ∧ S a = some (.lst ns) ∧ ns.length = ds.length ∧ ds.length ≤ 60000 ∧ (∀ (j : Nat) d m, ds[j]? = some d → ns[j]? = some m → DeedC S0 S a d m) ∧ (∀ d ∈ ds, DeedB d) ∧ Q (.im .non) S0
abbrev sp_l_copied (_ : Program) (_ : World) (K : PySem.W.Frag) : Sp := lift K mp_l_copied
abbrev sp_l_deed_same (_ : Program) (_ : World) (K : PySem.W.Frag) : Sp := lift K mp_l_deed_same
abbrev sp_l_deeds_same (_ : Program) (_ : World) (K : PySem.W.Frag) : Sp := lift K mp_l_deeds_same
abbrev sp_l_changed (_ : Program) (_ : World) (K : PySem.W.Frag) : Sp := lift K mp_l_changed
section
variable {P : Program} {w : World} {K : PySem.W.Frag} {vs : List V} {H : Hp} {Q : VK} {E : XK}
theorem len_l_copied (h : sp_l_copied P w K vs H Q E) : vs.length = 1 := lift_len (by rintro ms S mQ mX ⟨_, _, rfl, _⟩; rfl) h
theorem len_l_deed_same (h : sp_l_deed_same P w K vs H Q E) : vs.length = 2 := lift_len (by rintro ms S mQ mX ⟨_, _, rfl, _⟩; rfl) h
theorem len_l_deeds_same (h : sp_l_deeds_same P w K vs H Q E) : vs.length = 2 := lift_len (by rintro ms S mQ mX ⟨_, _, _, _, rfl, _⟩; rfl) h
theorem len_l_changed (h : sp_l_changed P w K vs H Q E) : vs.length = 1 := lift_len (by rintro ms S mQ mX ⟨_, _, _, _, rfl, _⟩; rfl) h
def t_l_copied (P : Program) (w : World) (K : PySem.W.Frag) : TS :=
  (tSeq (tIfS (tTest (tOp rEq (tOp (rIxT K) (tVar 0) (tC (.int 0))) (tC (.str "under")))) (tRet (tTup (tCons (tC (.str "under")) (tCons (tOp (rIxT K) (tVar 0) (tC (.int 1))) (tCons (tCB (c_list K) (tCons (tOp (rIxT K) (tVar 0) (tC (.int 2))) tNil)) tNil))))) tNext) (tRet (tVar 0)))

def t_l_deed_same (P : Program) (w : World) (K : PySem.W.Frag) : TS :=
  (tSeq (tIfS (tOr (tNot (tB (tCB (rIsi K) (tCons (tVar 0) (tCons (tC (.ty "tuple")) tNil))))) (tOr (tTest (tOp rNe (tCB (c_len K) (tCons (tVar 0) tNil)) (tCB (c_len K) (tCons (tVar 1) tNil)))) (tOr (tNot (tB (tCB (rIsi K) (tCons (tOp (rIxT K) (tVar 0) (tC (.int 0))) (tCons (tC (.ty "str")) tNil))))) (tTest (tOp rNe (tOp (rIxT K) (tVar 0) (tC (.int 0))) (tOp (rIxT K) (tVar 1) (tC (.int 0)))))))) (tRet (tC (.bl false))) tNext) (tSeq (tIfS (tTest (tOp rEq (tOp (rIxT K) (tVar 1) (tC (.int 0))) (tC (.str "back")))) (tRet (tAndV (tCall (sp_l_whole P w K) [] E0 (tCons (tOp (rIxT K) (tVar 0) (tC (.int 1))) tNil)) (tOp rEq (tOp (rIxT K) (tVar 0) (tC (.int 1))) (tOp (rIxT K) (tVar 1) (tC (.int 1)))))) tNext) (tSeq (tIfS (tOr (tNot (tB (tCB (rIsi K) (tCons (tOp (rIxT K) (tVar 0) (tC (.int 1))) (tCons (tC (.ty "str")) tNil))))) (tTest (tOp rNe (tOp (rIxT K) (tVar 0) (tC (.int 1))) (tOp (rIxT K) (tVar 1) (tC (.int 1)))))) (tRet (tC (.bl false))) tNext) (tSeq (tIfS (tTest (tOp rEq (tOp (rIxT K) (tVar 1) (tC (.int 0))) (tC (.str "under")))) (tRet (tCall (sp_l_pairs P w K) [] E0 (tCons (tOp (rIxT K) (tVar 0) (tC (.int 2))) (tCons (tOp (rIxT K) (tVar 1) (tC (.int 2))) tNil)))) tNext) (tRet (tCall (sp_l_same P w K) [] E0 (tCons (tOp (rIxT K) (tVar 0) (tC (.int 2))) (tCons (tOp (rIxT K) (tVar 1) (tC (.int 2))) tNil))))))))

def t_l_deeds_same (P : Program) (w : World) (K : PySem.W.Frag) : TS :=
  (tSeq (tIfS (tOr (tNot (tB (tCB (rIsi K) (tCons (tVar 0) (tCons (tC (.ty "list")) tNil))))) (tTest (tOp rNe (tCB (c_len K) (tCons (tVar 0) tNil)) (tCB (c_len K) (tCons (tVar 1) tNil))))) (tRet (tC (.bl false))) tNext) (tSeq (tFor (iRng1 (tCons (tCB (c_len K) (tCons (tVar 1) tNil)) tNil)) (gName 2) (tIfS (tNot (tB (tCall (sp_l_deed_same P w K) [] E0 (tCons (tOp (rIxL K) (tVar 0) (tVar 2)) (tCons (tOp (rIxL K) (tVar 1) (tVar 2)) tNil))))) (tRet (tC (.bl false))) tNext)) (tRet (tC (.bl true)))))

def t_l_changed (P : Program) (w : World) (K : PySem.W.Frag) : TS :=
  (tSeq (tFor (iList K (tVar 0)) (gName 1) (tIfS (tTest (tOp rEq (tOp (rIxT K) (tVar 1) (tC (.int 0))) (tC (.str "under")))) (tDrop (tBM K "list" rAppend (tOp (rIxT K) (tVar 1) (tC (.int 2))) (tCons (tTup (tCons (tC (.str "zz")) (tCons (tC (.int 9)) tNil))) tNil))) tNext)) (tDrop (tBM K "list" rAppend (tVar 0) (tCons (tTup (tCons (tC (.str "back")) (tCons (tC (.int 0)) tNil))) tNil))))

theorem rd_l_copied (h : sp_l_copied P w K vs H Q E) : t_l_copied P w K { nx := fun _ H' => Q .non H', rt := Q } (start ["_law_deed"] vs) H := by
  refine rd_N h fun G0 ms S mQ mX h => ?_
  obtain ⟨x, d, rfl, hv, q⟩ := h
  unfold t_l_copied bodyN
  walk_at "s0"
  rcases hv with rfl | ⟨z, ps, t, l, rfl, rfl, ht, hl⟩
  · cases d with
    | under z ps =>
      unfold deedD at *
      walk_at "md"
      refine ⟨fun _ => ?_, fun h => absurd h (by simp)⟩
      walk_at "md"
      refine m_tupI ?_
      walk_at "md"
      refine m_listI ?_
      walk_at "md"
      exact ⟨[.str "under", .str z, .lst (pairsD ps)], rfl, by simp, up q⟩
    | read n v =>
      unfold deedD at *
      walk_at "md"
      refine ⟨fun h => absurd h (by rw [decide_eq_true_iff]; decide +kernel), fun _ => ?_⟩
      walk_at "md"
      exact up q
    | write n v =>
      unfold deedD at *
      walk_at "md"
      refine ⟨fun h => absurd h (by rw [decide_eq_true_iff]; decide +kernel), fun _ => ?_⟩
      walk_at "md"
      exact up q
    | back k =>
      unfold deedD at *
      walk_at "md"
      refine ⟨fun h => absurd h (by rw [decide_eq_true_iff]; decide +kernel), fun _ => ?_⟩
      walk_at "md"
      exact up q
  · walk_at "md"
    refine ⟨fun _ => ?_, fun h => absurd h (by simp)⟩
    walk_at "md"
    refine m_tupI ?_
    walk_at "md"
    refine m_listXI (.mu hl) ?_
    walk_at "md"
    exact ⟨[.str "under", .str z, .lst (pairsD ps)], rfl, by simp, up q⟩
theorem rd_l_deed_same (h : sp_l_deed_same P w K vs H Q E) : t_l_deed_same P w K { nx := fun _ H' => Q .non H', rt := Q } (start ["_law_told", "_law_due"] vs) H := by
  refine rd_N h fun G0 ms S mQ mX h => ?_
  obtain ⟨x, d, rfl, hv, hb, q⟩ := h
  unfold t_l_deed_same bodyN
  walk_at "s0"
  rcases hv with rfl | ⟨z, ps, t, l, rfl, rfl, ht, hl⟩
  · cases d with
    | under z ps =>
      unfold deedD
      walk_at "md"
      refine ⟨fun h => absurd h (by simp), fun _ => ?_⟩
      walk_at "md"
      refine ⟨fun h => absurd h (by simp), fun _ => ?_⟩
      walk_at "md"
      refine ⟨fun h => absurd h (by rw [decide_eq_true_iff]; decide +kernel), fun _ => ?_⟩
      walk_at "md"
      refine ⟨fun h => absurd h (by simp), fun _ => ?_⟩
      walk_at "md"
      refine ⟨fun _ => ?_, fun h => absurd h (by simp)⟩
      walk_at "md"
      refine ⟨_, ps, ps, rfl, .im _, hb z ps rfl, ?_⟩
      rw [decide_eq_true rfl]
      exact up q
    | read n v =>
      unfold deedD
      walk_at "md"
      refine ⟨fun h => absurd h (by simp), fun _ => ?_⟩
      walk_at "md"
      refine ⟨fun h => absurd h (by simp), fun _ => ?_⟩
      walk_at "md"
      refine ⟨fun h => absurd h (by rw [decide_eq_true_iff]; decide +kernel), fun _ => ?_⟩
      walk_at "md"
      refine ⟨fun h => absurd h (by simp), fun _ => ?_⟩
      walk_at "md"
      refine ⟨fun h => absurd h (by rw [decide_eq_true_iff]; decide +kernel), fun _ => ?_⟩
      walk_at "md"
      refine ⟨v, v, rfl, ?_⟩
      rw [decide_eq_true rfl]
      exact up q
    | write n v =>
      unfold deedD
      walk_at "md"
      refine ⟨fun h => absurd h (by simp), fun _ => ?_⟩
      walk_at "md"
      refine ⟨fun h => absurd h (by simp), fun _ => ?_⟩
      walk_at "md"
      refine ⟨fun h => absurd h (by rw [decide_eq_true_iff]; decide +kernel), fun _ => ?_⟩
      walk_at "md"
      refine ⟨fun h => absurd h (by simp), fun _ => ?_⟩
      walk_at "md"
      refine ⟨fun h => absurd h (by rw [decide_eq_true_iff]; decide +kernel), fun _ => ?_⟩
      walk_at "md"
      refine ⟨v, v, rfl, ?_⟩
      rw [decide_eq_true rfl]
      exact up q
    | back k =>
      unfold deedD
      walk_at "md"
      refine ⟨fun h => absurd h (by simp), fun _ => ?_⟩
      walk_at "md"
      refine ⟨fun h => absurd h (by simp), fun _ => ?_⟩
      walk_at "md"
      refine ⟨fun _ => ?_, fun h => absurd h (by simp)⟩
      walk_at "md"
      refine ⟨_, rfl, trivial, ?_⟩
      unfold wholeD
      walk_at "md"
      rw [decide_eq_true rfl]
      exact up q
  · unfold deedD
    walk_at "md"
    refine m_isiT ht kb_tuple_tuple ?_
    walk_at "md"
    refine m_lenTM ht ?_
    walk_at "md"
    refine ⟨fun h => absurd h (by simp), fun _ => ?_⟩
    walk_at "md"
    refine ⟨fun h => absurd h (by simp), fun _ => ?_⟩
    walk_at "md"
    refine ⟨fun h => absurd h (by rw [decide_eq_true_iff]; decide +kernel), fun _ => ?_⟩
    walk_at "md"
    refine ⟨fun h => absurd h (by simp), fun _ => ?_⟩
    walk_at "md"
    refine ⟨fun _ => ?_, fun h => absurd h (by simp)⟩
    walk_at "md"
    refine ⟨_, ps, ps, rfl, .mu hl, hb z ps rfl, ?_⟩
    rw [decide_eq_true rfl]
    exact up q
theorem rd_l_deeds_same (h : sp_l_deeds_same P w K vs H Q E) : t_l_deeds_same P w K { nx := fun _ H' => Q .non H', rt := Q } (start ["_law_told", "_law_due", "_law_k"] vs) H := by
  refine rd_N h fun G0 ms S mQ mX h => ?_
  obtain ⟨x, b, ns, ds, rfl, ⟨a, rfl, ha⟩, hb, hl, hdl, hv, hB, q⟩ := h
  have hbl : (deedsM ds).length = ds.length := List.length_map _
  unfold t_l_deeds_same bodyN
  walk_at "s0"
  walk_at "md"
  refine ⟨fun h => absurd h (by rw [hl, hbl]; simp), fun _ => ?_⟩
  walk_at "md"
  refine n_for (i_rng (n := 0) ?_)
  walk_at "md"
  rw [hbl]
  refine ⟨_, rfl, by omega, by omega, fun i E' S' => S' = S ∧ ∃ v2, E' = [some (.mu a), some (.mu b), v2], ⟨rfl, _, rfl⟩, fun _ _ _ _ _ => trivial, ?_, ?_⟩
  · rintro i m E' S' hi rfl ⟨rfl, v2, rfl⟩
    have hi' : i < ds.length := by have : i < ((ds.length : Nat) : Int).toNat := hi; omega
    have e1 := List.getElem?_eq_getElem hi'
    have e2 := List.getElem?_eq_getElem (show i < ns.length by omega)
    generalize ds[i] = d at e1
    generalize ns[i] = m at e2
    walk_at "md"
    refine m_ixM ha (m := m) (by rw [atI_nat]; exact e2) ?_
    walk_at "md"
    refine m_ixM hb (m := .im (deedD d)) (by rw [atI_nat, List.getElem?_map, e1]; rfl) ?_
    walk_at "md"
    refine ⟨m, d, rfl, hv i d m e1 e2, hB d (List.mem_of_getElem? e1), ?_⟩
    walk_at "md"
    exact ⟨rfl, _, rfl⟩
  · rintro E' S' ⟨rfl, v2, rfl⟩
    walk_at "md"
    exact up q
theorem rd_l_changed (h : sp_l_changed P w K vs H Q E) : t_l_changed P w K { nx := fun _ H' => Q .non H', rt := Q } (start ["_law_rows", "_law_deed"] vs) H := by
  refine rd_N h fun G0 ms S mQ mX h => ?_
  obtain ⟨a, ns, ds, S0, rfl, hsub, ha0, ha, hl, hdl, hc, hB, q⟩ := h
  unfold t_l_changed bodyN
  walk_at "s0"
  walk_at "md"
  refine n_for (i_list ?_)
  walk_at "md"
  refine .inr ⟨a, ns, rfl, ha, fun i E' S' => (∃ v1, E' = [some (.mu a), v1]) ∧ Kr.Sub S0 S' ∧ S' a = some (.lst ns) ∧ ∀ (j : Nat) z ps m, ds[j]? = some (.under z ps) → ns[j]? = some m → ∃ t l us, m = .mu t ∧ S0 l = none ∧ l ≠ a ∧ S' t = some (.tup [.im (.str "under"), .im (.str z), .mu l]) ∧ S' l = some (.lst us) ∧ us.length ≤ 60000 + i, ⟨⟨none, rfl⟩, hsub, ha, fun j z ps m e1 e2 => ?_⟩, fun i E' S' _ h => h.2.2.1, ?_, ?_⟩
  · obtain ⟨t, l, a1, a2, a3, a4, a5, a6, a7⟩ := hc j _ m e1 e2
    exact ⟨t, l, _, a1, a3, a4, a6, a7, by have := hB _ (List.mem_of_getElem? e1) z ps rfl; unfold pairsD; rw [List.length_map, List.length_map]; omega⟩
  · rintro i m E' S' hi em ⟨⟨v1, rfl⟩, hsub', ha', hall⟩
    have em : ns[i]? = some m := em
    have hi' : i < ds.length := by have := (List.getElem?_eq_some_iff.mp em).1; omega
    have e1 := List.getElem?_eq_getElem hi'
    generalize ds[i] = d at e1
    have mono : ∀ (j : Nat) z ps m, ds[j]? = some (.under z ps) → ns[j]? = some m → ∃ t l us, m = .mu t ∧ S0 l = none ∧ l ≠ a ∧ S' t = some (.tup [.im (.str "under"), .im (.str z), .mu l]) ∧ S' l = some (.lst us) ∧ us.length ≤ 60000 + (i + 1) := fun j z ps m e1 e2 => by
      obtain ⟨t, l, us, a1, a2, a3, a4, a5, a6⟩ := hall j z ps m e1 e2
      exact ⟨t, l, us, a1, a2, a3, a4, a5, by omega⟩
    have hcd := hc i d m e1 em
    cases d with
    | under z ps =>
      obtain ⟨t, l, us, rfl, a2, a3, a4, a5, a6⟩ := hall i z ps m e1 em
      walk_at "md"
      refine ⟨fun _ => ?_, fun h => absurd h (by simp)⟩
      walk_at "md"
      refine m_bm ?_
      walk_at "md"
      refine ⟨tyL_M a5, ?_⟩
      walk_at "md"
      refine m_tupI ?_
      walk_at "md"
      refine ⟨[.str "zz", .int 9], rfl, by simp, ?_⟩
      walk_at "md"
      refine m_app a5 (by omega) ?_
      refine ⟨⟨_, rfl⟩, fun b o e => ?_, by rw [mup_ne (Ne.symm a3)]; exact ha', fun j z2 ps2 m2 e2 e3 => ?_⟩
      · rw [mup_ne (by rintro rfl; rw [a2] at e; cases e)]; exact hsub' _ _ e
      · obtain ⟨t2, l2, us2, b1, b2, b3, b4, b5, b6⟩ := mono j z2 ps2 m2 e2 e3
        have nt : t2 ≠ l := by rintro rfl; rw [b4] at a5; cases a5
        by_cases e : l2 = l
        · subst e
          exact ⟨t2, l2, _, b1, b2, b3, by rw [mup_ne nt]; exact b4, mup_same, by rw [List.length_append, List.length_singleton]; omega⟩
        · exact ⟨t2, l2, us2, b1, b2, b3, by rw [mup_ne nt]; exact b4, by rw [mup_ne e]; exact b5, b6⟩
    | read n v =>
      have hcd : m = .im (deedD (.read n v)) := hcd
      subst hcd
      unfold deedD
      walk_at "md"
      refine ⟨fun h => absurd h (by rw [decide_eq_true_iff]; decide +kernel), fun _ => ?_⟩
      walk_at "md"
      exact ⟨⟨_, rfl⟩, hsub', ha', mono⟩
    | write n v =>
      have hcd : m = .im (deedD (.write n v)) := hcd
      subst hcd
      unfold deedD
      walk_at "md"
      refine ⟨fun h => absurd h (by rw [decide_eq_true_iff]; decide +kernel), fun _ => ?_⟩
      walk_at "md"
      exact ⟨⟨_, rfl⟩, hsub', ha', mono⟩
    | back k =>
      have hcd : m = .im (deedD (.back k)) := hcd
      subst hcd
      unfold deedD
      walk_at "md"
      refine ⟨fun h => absurd h (by rw [decide_eq_true_iff]; decide +kernel), fun _ => ?_⟩
      walk_at "md"
      exact ⟨⟨_, rfl⟩, hsub', ha', mono⟩
  · rintro E' S' ⟨⟨v1, rfl⟩, hsub', ha', hall⟩
    walk_at "md"
    refine m_bm ?_
    walk_at "md"
    refine ⟨tyL_M ha', ?_⟩
    walk_at "md"
    refine m_tupI ?_
    walk_at "md"
    refine ⟨[.str "back", .int 0], rfl, by simp, ?_⟩
    walk_at "md"
    refine m_app ha' (by omega) ?_
    refine up_sub (fun b o e => ?_) (up q)
    rw [mup_ne (by rintro rfl; rw [ha0] at e; cases e)]; exact hsub' _ _ e
end
end Kr
set_option maxHeartbeats 2000000
namespace Kr
open PySem PySem.Spec L2
theorem Lay.adopt {τ : Type} [DecidableEq τ] {S : MS} {A : τ → Addr} {C : τ → Option MO} {t : τ} {o : MO} {p : Addr} (h : Lay S A C) (ht : C t = none) (e : S p = some o) (hp : ∀ x, C x ≠ none → A x ≠ p) : Lay S (upT A t p) (upT C t (some o)) := by
  have k : ∀ x, x ≠ t → upT C t (some o) x ≠ none → C x ≠ none := fun x e hx => by rw [upT_ne e] at hx; exact hx
  refine ⟨fun x o' e' => ?_, fun x y hx hy e' => ?_⟩
  · by_cases ex : x = t
    · subst ex; rw [upT_same] at e' ⊢; cases e'; exact e
    · rw [upT_ne ex] at e' ⊢; exact h.get x o' e'
  · by_cases ex : x = t
    · by_cases ey : y = t
      · rw [ex, ey]
      · subst ex
        rw [upT_same, upT_ne ey] at e'
        exact absurd e'.symm (hp y (k y ey hy))
    · by_cases ey : y = t
      · subst ey
        rw [upT_same, upT_ne ex] at e'
        exact absurd e' (hp x (k x ex hx))
      · rw [upT_ne ex, upT_ne ey] at e'
        exact h.inj x y (k x ex hx) (k y ey hy) e'
inductive T10 where
  | s | tl | kp | hl | row (i : Nat) | ht (j : Nat) | ha (j : Nat)
  deriving DecidableEq
abbrev Held := List (List D × List D)
def C10 (K : PySem.W.Frag) (A : T10 → Addr) (M : ShM) (told : List (List Deed)) (kept : List Nat) (held : Held) : T10 → Option MO
  | .s => some (shO K M)
  | .tl => some (.lst ((List.range told.length).map fun i => .mu (A (.row i))))
  | .kp => some (.lst ((dNats kept).map .im))
  | .hl => some (.lst ((List.range held.length).map fun j => .mu (A (.ht j))))
  | .row i => told[i]?.map fun ds => .lst (deedsM ds)
  | .ht j => held[j]?.map fun p => .tup [.mu (A (.ha j)), .im (.lst p.2)]
  | .ha j => held[j]?.map fun p => .lst (p.1.map .im)
/-- the same names of the law's own cells -/
def Same10 (A B : T10 → Addr) : Prop := B .s = A .s ∧ B .tl = A .tl ∧ B .kp = A .kp ∧ B .hl = A .hl
section
variable {K : PySem.W.Frag} {S : MS} {A : T10 → Addr} {M M' : ShM} {told : List (List Deed)} {kept kept' : List Nat} {held : Held} {i : Nat} {ds ds' : List Deed} {p : Addr}
theorem L10.sh (h : Lay S A (C10 K A M told kept held)) : Lay (mup S (A .s) (shO K M')) A (C10 K A M' told kept held) :=
  h.put' (t := .s) (by simp [C10]) _ fun x => by cases x <;> simp [C10]
theorem L10.kp (h : Lay S A (C10 K A M told kept held)) : Lay (mup S (A .kp) (.lst ((dNats kept').map .im))) A (C10 K A M told kept' held) :=
  h.put' (t := .kp) (by simp [C10]) _ fun x => by cases x <;> simp [C10]
theorem L10.row (h : Lay S A (C10 K A M told kept held)) (hi : i < told.length) : Lay (mup S (A (.row i)) (.lst (deedsM ds'))) A (C10 K A M (told.set i ds') kept held) :=
  h.put' (t := .row i) (by simp [C10, hi]) _ fun x => by
    cases x with
    | row j =>
      by_cases e : i = j
      · subst e; simp [C10, hi]
      · simp [C10, List.getElem?_set_ne e, Ne.symm e]
    | _ => simp [C10]
theorem L10.more (h : Lay S A (C10 K A M told kept held)) (hp : S p = none) : ∃ B, Lay (mup (mup S p (.lst [])) (A .tl) (.lst (((List.range told.length).map fun i => .mu (A (.row i))) ++ [.mu p]))) B (C10 K B M (told ++ [[]]) kept held) ∧ Same10 A B := by
  refine ⟨upT A (.row told.length) p, ?_, by simp [Same10, upT]⟩
  have h1 := h.new (t := .row told.length) (by simp [C10]) hp (.lst [])
  have e : A .tl = upT A (.row told.length) p .tl := by simp [upT]
  rw [e]
  refine h1.put' (t := .tl) (by simp [upT, C10]) _ fun x => ?_
  cases x with
  | tl =>
    simp only [C10, if_pos]
    congr 2
    rw [List.length_append, List.length_singleton, List.range_succ, List.map_append]
    congr 1
    · refine List.map_congr_left fun j hj => ?_
      rw [List.mem_range] at hj
      simp [upT]; omega
    · simp [upT]
  | row j =>
    rcases Nat.lt_trichotomy j told.length with l | rfl | l
    · have hne : ¬ j = told.length := by omega
      simp [C10, upT, List.getElem?_append_left l, hne]
    · simp [C10, upT]
    · have hne : ¬ j = told.length := by omega
      have h1 : told[j]? = none := by simp; omega
      have h2 : (told ++ [[]])[j]? = none := by simp; omega
      simp [C10, upT, hne, h1, h2]
  | _ => simp [C10, upT]
/-- a list that was told is held, with its copy -/
theorem L10.hold (h : Lay S A (C10 K A M told kept held)) {l t : Addr} {xs : List D} (hl : S l = some (.lst (xs.map .im))) (nl : ∀ x, C10 K A M told kept held x ≠ none → A x ≠ l) (ht : S t = none) :
    ∃ B, Lay (mup (mup S t (.tup [.mu l, .im (.lst xs)])) (A .hl) (.lst (((List.range held.length).map fun j => .mu (A (.ht j))) ++ [.mu t]))) B (C10 K B M told kept (held ++ [(xs, xs)])) ∧ Same10 A B := by
  refine ⟨upT (upT A (.ha held.length) l) (.ht held.length) t, ?_, by simp [Same10, upT]⟩
  have h1 := h.adopt (t := .ha held.length) (by simp [C10]) hl nl
  have h2 := h1.new (t := .ht held.length) (by simp [upT, C10]) ht (.tup [.mu l, .im (.lst xs)])
  have e : A .hl = upT (upT A (.ha held.length) l) (.ht held.length) t .hl := by simp [upT]
  rw [e]
  refine h2.put' (t := .hl) (by simp [upT, C10]) _ fun x => ?_
  cases x with
  | hl =>
    simp only [C10, if_pos]
    congr 2
    rw [List.length_append, List.length_singleton, List.range_succ, List.map_append]
    congr 1
    · refine List.map_congr_left fun j hj => ?_
      rw [List.mem_range] at hj
      simp [upT]; omega
    · simp [upT]
  | ht j =>
    rcases Nat.lt_trichotomy j held.length with l | rfl | l
    · have hne : ¬ j = held.length := by omega
      simp [C10, upT, List.getElem?_append_left l, hne]
    · simp [C10, upT]
    · have hne : ¬ j = held.length := by omega
      have h1 : held[j]? = none := by simp; omega
      have h2 : (held ++ [(xs, xs)])[j]? = none := by simp; omega
      simp [C10, upT, hne, h1, h2]
  | ha j =>
    rcases Nat.lt_trichotomy j held.length with l | rfl | l
    · have hne : ¬ j = held.length := by omega
      simp [C10, upT, List.getElem?_append_left l, hne]
    · simp [C10, upT]
    · have hne : ¬ j = held.length := by omega
      have h1 : held[j]? = none := by simp; omega
      have h2 : (held ++ [(xs, xs)])[j]? = none := by simp; omega
      simp [C10, upT, hne, h1, h2]
  | tl => simp [C10, upT]
  | row j => simp [C10, upT]
  | _ => simp [C10, upT]
theorem L10.at_ (hi : i < told.length) : atI ((List.range told.length).map fun i => MV.mu (A (.row i))) (i : Int) = some (.mu (A (.row i))) := by
  rw [atI_nat, List.getElem?_map, List.getElem?_range hi]; rfl
theorem L10.get (h : Lay S A (C10 K A M told kept held)) (hi : told[i]? = some ds) : S (A (.row i)) = some (.lst (deedsM ds)) := h.get _ _ (by simp [C10, hi])
end
theorem shaped_deeds {pool : List Str} (hp : ∀ n ∈ pool, NameOk n) : ∀ {ds : List Deed}, (∀ d ∈ ds, DeedOk pool d) → SeqAt.shaped (toP (.lst (ds.map deedD))) = true := by
  have one : ∀ d, DeedOk pool d → PyData.canLay0 (toP (deedD d)) = true ∧ PyData.depth (toP (deedD d)) ≤ 3 := by
    intro d hd
    have hv : ∀ v : Val, PyData.canLay0 (toP (valD v)) = true ∧ PyData.depth (toP (valD v)) = 0 := fun v => by cases v <;> simp [valD, toP, PyData.canLay0, PyData.depth]
    cases d with
    | read n v =>
      have h1 := strOk_signs (hp n hd).1
      simp [deedD, toP, toPs, PyData.canLay0, PyData.canLayAll0, PyData.depth, PyData.depthAll, hv v, h1]
      decide +kernel
    | write n v =>
      have h1 := strOk_signs (hp n hd).1
      simp [deedD, toP, toPs, PyData.canLay0, PyData.canLayAll0, PyData.depth, PyData.depthAll, hv v, h1]
      decide +kernel
    | back k =>
      simp [deedD, toP, toPs, PyData.canLay0, PyData.canLayAll0, PyData.depth, PyData.depthAll]
      decide +kernel
    | under z ps =>
      have h1 := strOk_signs hd.1.1
      have h2 := canLay_pairs ps hd.2
      have h3 := depth_pairs ps
      have e : toP (deedD (.under z ps)) = .tuple [.str "under", .str z, .list (ps.map fun p => .tuple [.str p.1, toP (valD p.2)])] := by
        have := toP_pairs ps
        simp only [deedD, toP, toPs] at this ⊢
        rw [this]
      rw [e]
      have e2 : PyData.strOk "under" = true := by decide +kernel
      refine ⟨by simp [PyData.canLay0, PyData.canLayAll0, h1, h2, e2], ?_⟩
      simp only [PyData.depth, PyData.depthAll]
      omega
  intro ds h
  have e : toP (.lst (ds.map deedD)) = .list (ds.map fun d => toP (deedD d)) := by
    rw [toP, toPs_map]
  unfold SeqAt.shaped
  rw [e]
  have h1 : PyData.canLayAll0 (ds.map fun d => toP (deedD d)) = true := by
    clear e
    induction ds with
    | nil => rfl
    | cons d ds ih => rw [List.map_cons, PyData.canLayAll0, (one d (h d List.mem_cons_self)).1, ih fun x hx => h x (List.mem_cons_of_mem _ hx)]; rfl
  have h2 : PyData.depthAll (ds.map fun d => toP (deedD d)) ≤ 3 := by
    clear e h1
    induction ds with
    | nil => exact Nat.zero_le _
    | cons d ds ih =>
      have a := (one d (h d List.mem_cons_self)).2
      have b := ih fun x hx => h x (List.mem_cons_of_mem _ hx)
      simp only [List.map_cons, PyData.depthAll]; omega
  rw [PyData.canLay0, h1, Bool.true_and]
  refine decide_eq_true ?_
  simp only [PyData.depth]
  omega
structure J10 (pool : List Str) (c : Nat) (M : ShM) (told : List (List Deed)) (kept : List Nat) (held : Held) : Prop where
  j : J12 pool c M told kept
  ho : ∀ p ∈ held, p.1 = p.2 ∧ SeqAt.shaped (toP (.lst p.1)) = true ∧ p.1.length ≤ 60000
  hl : held.length ≤ 4 * c
  db : ∀ ds ∈ told, ∀ d ∈ ds, DeedB d
theorem J10.mono {pool : List Str} {c c' : Nat} {M : ShM} {told : List (List Deed)} {kept : List Nat} {held : Held} (h : J10 pool c M told kept held) (l : c ≤ c') : J10 pool c' M told kept held := ⟨h.j.mono l, h.ho, Nat.le_trans h.hl (by omega), h.db⟩
theorem J10.hold {pool : List Str} {c : Nat} {M : ShM} {told : List (List Deed)} {kept : List Nat} {held : Held} (h : J10 pool c M told kept held) {xs : List D} (hx : SeqAt.shaped (toP (.lst xs)) = true) (hxl : xs.length ≤ 60000) (hl : held.length + 1 ≤ 4 * c) : J10 pool c M told kept (held ++ [(xs, xs)]) :=
  ⟨h.j, fun p hp => (List.mem_append.mp hp).elim (h.ho p) fun g => by rw [List.mem_singleton.mp g]; exact ⟨rfl, hx, hxl⟩, by rw [List.length_append, List.length_singleton]; exact hl, h.db⟩
def mp_l_tried (K : PySem.W.Frag) : Mp := fun ms S Q _ => ∃ (A : T10 → Addr) (pool : List Str) (c : Nat) (M : ShM) (told : List (List Deed)) (kept : List Nat) (held : Held) (who : Nat) (n : Str) (more cell : Int), ms = [.mu (A .s), .mu (A .tl), .mu (A .kp), .mu (A .hl), .im (.int (who : Nat)), .im (.str n), .im (.int more), .im (.int cell)] ∧
  Lay S A (C10 K A M told kept held) ∧ J10 pool c M told kept held ∧ (∀ n ∈ pool, NameOk n) ∧ pool.length ≤ 160 ∧ c ≤ 2900 ∧ who < M.recs.length ∧ (n ∈ pool ∨ 13 ≤ more % 16) ∧
  ∀ b S' B M' told' kept' held', Same10 A B → Lay S' B (C10 K B M' told' kept' held') → J10 pool (c + 1) M' told' kept' held' → M'.recs.length = M.recs.length → held'.length ≤ held.length + 1 → Q (.im (.bl b)) S'
abbrev sp_l_tried (_ : Program) (_ : World) (K : PySem.W.Frag) : Sp := lift K (mp_l_tried K)
def mp_l_short (K : PySem.W.Frag) : Mp := fun ms S Q _ => ∃ (A : T10 → Addr) (pool : List Str) (c : Nat) (M : ShM) (told : List (List Deed)) (kept : List Nat) (held : Held) (many : Nat), ms = [.mu (A .s), .mu (A .tl), .mu (A .kp), .mu (A .hl), .im (.lst (dStrs pool)), .im (.int (many : Nat))] ∧
  Lay S A (C10 K A M told kept held) ∧ J10 pool c M told kept held ∧ (∀ n ∈ pool, NameOk n) ∧ 1 ≤ pool.length ∧ pool.length ≤ 160 ∧ many ≤ 40 ∧ c + 3 * many ≤ 2900 ∧
  ∀ S' B M' told' kept' held', Same10 A B → Lay S' B (C10 K B M' told' kept' held') → J10 pool (c + 3 * many) M' told' kept' held' → M'.recs.length = M.recs.length + many → held'.length ≤ held.length + 2 * many → Q (.im .non) S'
abbrev sp_l_short (_ : Program) (_ : World) (K : PySem.W.Frag) : Sp := lift K (mp_l_short K)
section
variable {P : Program} {w : World} {K : PySem.W.Frag} {vs : List V} {H : Hp} {Q : VK} {E : XK}
theorem len_l_tried (h : sp_l_tried P w K vs H Q E) : vs.length = 8 := lift_len (by rintro ms S mQ mX ⟨_, _, _, _, _, _, _, _, _, _, _, rfl, _⟩; rfl) h
theorem len_l_short (h : sp_l_short P w K vs H Q E) : vs.length = 6 := lift_len (by rintro ms S mQ mX ⟨_, _, _, _, _, _, _, _, rfl, _⟩; rfl) h
theorem ExK.deal (kx : ExK K) : ∀ c ∈ dealErrs, PySem.W.exmOne K (exc K c) (.ref (He.ga K "DealError")) = some true := by
  intro c hc
  simp only [dealErrs, List.mem_cons, List.not_mem_nil, or_false] at hc
  rcases hc with rfl | rfl | rfl | rfl | rfl | rfl | rfl | rfl
  · exact kx.e_NoDealing_DealError
  · exact kx.e_Over_DealError
  · exact kx.e_NoName_DealError
  · exact kx.e_NoValue_DealError
  · exact kx.e_NoMark_DealError
  · exact kx.e_Taken_DealError
  · exact kx.e_Late_DealError
  · exact kx.e_Crossed_DealError
def t_l_tried (P : Program) (w : World) (K : PySem.W.Frag) : TS :=
  (tSeq (tTry (fun W => (tIfS (tTest (tOp r_lt (tOp r_mod (tVar 6) (tC (.int 16))) (tC (.int 13)))) (tSeq (tAsg (tCallS (sp_l_deed_by P w K) (WE W) (tCons (tVar 0) (tCons (tVar 4) (tCons (tVar 5) (tCons (tVar 6) (tCons (tVar 7) tNil)))))) (gName 8)) (tSeq (tDrop (tBM K "list" rAppend (tOp (rIxL K) (tVar 1) (tVar 4)) (tCons (tCall (sp_l_copied P w K) [] E0 (tCons (tVar 8) tNil)) tNil))) (tIfS (tTest (tOp rEq (tOp (rIxT K) (tVar 8) (tC (.int 0))) (tC (.str "under")))) (tDrop (tBM K "list" rAppend (tVar 3) (tCons (tTup (tCons (tOp (rIxT K) (tVar 8) (tC (.int 2))) (tCons (tCB (c_list K) (tCons (tOp (rIxT K) (tVar 8) (tC (.int 2))) tNil)) tNil))) tNil))) tNext))) (tIfS (tOr (tTest (tOp r_lt (tOp r_mod (tVar 6) (tC (.int 16))) (tC (.int 15)))) (tTest (tOp rEq (tOp r_mod (tOp r_div (tVar 6) (tC (.int 16))) (tC (.int 2))) (tC (.int 0))))) (tSeq (tDrop (tMethS (He.ga K "Shelf") "keep" (sp_Shelf_keep P w K) (WE W) (tVar 0) (tCons (tVar 4) tNil))) (tDrop (tBM K "list" rAppend (tVar 2) (tCons (tVar 4) tNil)))) (tDrop (tMethS (He.ga K "Shelf") "drop" (sp_Shelf_drop P w K) (WE W) (tVar 0) (tCons (tVar 4) tNil)))))) (fun D => wOnly K (.ref (He.ga K "DealError")) (fun _ _ _ => (tRet (tC (.bl false)))) (fun _ _ _ _ => False) D)) (tRet (tC (.bl true))))

def t_l_short (P : Program) (w : World) (K : PySem.W.Frag) : TS :=
  (tFor (iRng1 (tCons (tVar 5) tNil)) (gName 6) (tSeq (tDrop (tBM K "list" rAppend (tVar 1) (tCons (tLst tNil) tNil))) (tSeq (tAsg (tOp r_sub (tCB (c_len K) (tCons (tVar 1) tNil)) (tC (.int 1))) (gName 7)) (tIfS (tTest (tOp rEq (tMeth (He.ga K "Shelf") "begin" (sp_Shelf_begin P w K) [] E0 (tVar 0) tNil) (tVar 7))) (tSeq (tDrop (tCall (sp_l_tried P w K) [] E0 (tCons (tVar 0) (tCons (tVar 1) (tCons (tVar 2) (tCons (tVar 3) (tCons (tVar 7) (tCons (tOp (rIxL K) (tVar 4) (tOp r_mod (tVar 6) (tCB (c_len K) (tCons (tVar 4) tNil)))) (tCons (tC (.int 7)) (tCons (tVar 6) tNil)))))))))) (tDrop (tCall (sp_l_tried P w K) [] E0 (tCons (tVar 0) (tCons (tVar 1) (tCons (tVar 2) (tCons (tVar 3) (tCons (tVar 7) (tCons (tC (.str "")) (tCons (tC (.int 13)) (tCons (tC (.int 0)) tNil))))))))))) tNext))))

theorem rd_l_tried (kx : ExK K) (h : sp_l_tried P w K vs H Q E) : t_l_tried P w K { nx := fun _ H' => Q .non H', rt := Q } (start ["_law_shelf", "_law_told", "_law_kept", "_law_held", "_law_who", "_law_name", "_law_more", "_law_cell", "_law_deed"] vs) H := by
  refine rd_N h fun G0 ms S mQ mX h => ?_
  obtain ⟨A, pool, c, M, told, kept, held, who, n, more, cell, rfl, hA, hJ, hpool, hp2, hc, hw, hn, q⟩ := h
  have hs := hA.get .s _ rfl
  have hok : ShOk M := hJ.j.b.ok hpool (by omega) (by omega)
  have who_ : ∀ {i}, M.going (.int (who : Nat)) = .ok i → i = who := fun hg => by
    have e := (going_ok hg).2
    have e2 := D.int.inj e
    omega
  have hwt : who < told.length := by rw [hJ.j.len]; exact hw
  have hkl := hJ.j.kl
  have sm : Same10 A A := ⟨rfl, rfl, rfl, rfl⟩
  walk_at "s0"
  unfold t_l_tried bodyN
  refine n_seq (n_tryOnly fun G1 W e1 hW => ?_)
  walk_at "md"
  refine ⟨fun h13 => ?_, fun h13 => ?_⟩
  · -- a deed
    have hn : n ∈ pool := hn.elim id fun h => by have := of_decide_eq_true h13; omega
    walk_at "md"
    refine m_callS hW ?_
    walk_at "md"
    refine ⟨A .s, pool, M, who, n, more, cell, rfl, hs, hok, hpool n hn, hn, fun cc hcc => ?_, fun r M' d x S2 hr ho st hd => ?_⟩
    · refine ⟨true, kx.deal cc hcc, fun _ a => ?_, fun z => (nomatch z)⟩
      walk_at "md"
      exact up (q false S A M told kept held sm hA (hJ.mono (by omega)) rfl (by omega))
    · obtain ⟨hJ', hl'⟩ := hJ.j.step hpool hr ho st
      have hrd : told[who] = r.done := by
        have := hJ.j.get hr
        rw [List.getElem?_eq_getElem hwt] at this
        exact Option.some.inj this
      have hA' := L10.sh (M' := M') hA
      have hdl := (hJ.j.b.get hr).done
      have hdb : DeedB d := fun z ps e => by
        subst e
        cases st with
        | under hz =>
          unfold ShM.underOf selA
          refine Nat.le_trans (List.length_filterMap_le _ _) (Nat.le_trans (List.length_filter_le _ _) (Nat.le_trans (srt_len _) ?_))
          have h1 := hok.rows
          have h2 := (hok.rc r (List.mem_of_getElem? hr)).own
          unfold keysA
          rw [List.length_append, List.length_map, List.length_map]; omega
      have hJ10 : J10 pool (c + 1) M' (told.set who (r.done ++ [d])) kept held := ⟨hJ', hJ.ho, Nat.le_trans hJ.hl (by omega), fun ds hds x hx => by
        rcases List.mem_or_eq_of_mem_set hds with hds | rfl
        · exact hJ.db ds hds x hx
        · rcases List.mem_append.mp hx with hx | hx
          · exact hJ.db _ (List.mem_of_getElem? (hJ.j.get hr)) x hx
          · rw [List.mem_singleton.mp hx]; exact hdb⟩
      have hdk : DeedOk pool d := st.dk hJ.j.b hr hpool
      have flat : ∀ {y : Deed}, y = d → x = .im (deedD y) → S2 = mup S (A .s) (shO K M') → (∀ z ps, y ≠ .under z ps) →
          ∀ {nx : Env → MS → Prop} {rt : MV → MS → Prop} {bk ct : Env → MS → Prop}, (∀ S5, Lay S5 A (C10 K A M' (told.set who (r.done ++ [d])) kept held) → nx [some (.mu (A .s)), some (.mu (A .tl)), some (.mu (A .kp)), some (.mu (A .hl)), some (.im (.int (who : Nat))), some (.im (.str n)), some (.im (.int more)), some (.im (.int cell)), some x] S5) →
          EvS K G1 (tSeq (tDrop (tBM K "list" rAppend (tOp (rIxL K) (tVar 1) (tVar 4)) (tCons (tCall (sp_l_copied P w K) [] E0 (tCons (tVar 8) tNil)) tNil))) (tIfS (tTest (tOp rEq (tOp (rIxT K) (tVar 8) (tC (.int 0))) (tC (.str "under")))) (tDrop (tBM K "list" rAppend (tVar 3) (tCons (tTup (tCons (tOp (rIxT K) (tVar 8) (tC (.int 2))) (tCons (tCB (c_list K) (tCons (tOp (rIxT K) (tVar 8) (tC (.int 2))) tNil)) tNil))) tNil))) tNext))
            [some (.mu (A .s)), some (.mu (A .tl)), some (.mu (A .kp)), some (.mu (A .hl)), some (.im (.int (who : Nat))), some (.im (.str n)), some (.im (.int more)), some (.im (.int cell)), some x] S2 ⟨nx, rt, bk, ct⟩ := by
        intro y hy hx hS2 hnu nx rt bk ct fin
        subst hy hx hS2
        walk_at "md"
        refine m_bm ?_
        walk_at "md"
        refine m_ixM (hA'.get .tl _ rfl) (L10.at_ hwt) ?_
        have hrow := L10.get hA' (List.getElem?_eq_getElem hwt)
        refine ⟨tyL_M hrow, ?_⟩
        walk_at "md"
        refine ⟨_, y, rfl, .inl rfl, ?_⟩
        walk_at "md"
        refine m_app hrow (by rw [List.length_map, hrd]; omega) ?_
        rw [hrd, show deedsM r.done ++ [MV.im (deedD y)] = deedsM (r.done ++ [y]) by simp [deedsM]]
        have hA2 := fin _ (L10.row (ds' := r.done ++ [y]) hA' hwt)
        generalize mup (mup S (A .s) (shO K M')) (A (.row who)) (.lst (deedsM (r.done ++ [y]))) = S5 at hA2 ⊢
        cases y with
        | under z ps => exact absurd rfl (hnu z ps)
        | read n v =>
          unfold deedD at hA2 ⊢
          walk_at "md"
          refine ⟨fun h => absurd h (by rw [decide_eq_true_iff]; decide +kernel), fun _ => ?_⟩
          walk_at "md"
          exact hA2
        | write n v =>
          unfold deedD at hA2 ⊢
          walk_at "md"
          refine ⟨fun h => absurd h (by rw [decide_eq_true_iff]; decide +kernel), fun _ => ?_⟩
          walk_at "md"
          exact hA2
        | back k =>
          unfold deedD at hA2 ⊢
          walk_at "md"
          refine ⟨fun h => absurd h (by rw [decide_eq_true_iff]; decide +kernel), fun _ => ?_⟩
          walk_at "md"
          exact hA2
      cases d with
      | read n v =>
        refine flat rfl hd.1 hd.2 (fun z ps h => (nomatch h)) fun S5 hA2 => ?_
        walk_at "md"
        exact up (q true _ A M' _ kept held sm hA2 hJ10 hl' (by omega))
      | write n v =>
        refine flat rfl hd.1 hd.2 (fun z ps h => (nomatch h)) fun S5 hA2 => ?_
        walk_at "md"
        exact up (q true _ A M' _ kept held sm hA2 hJ10 hl' (by omega))
      | back k =>
        refine flat rfl hd.1 hd.2 (fun z ps h => (nomatch h)) fun S5 hA2 => ?_
        walk_at "md"
        exact up (q true _ A M' _ kept held sm hA2 hJ10 hl' (by omega))
      | under z ps =>
        obtain ⟨l, t, hl, ht, rfl, rfl⟩ := hd
        have ntl : t ≠ l := by rintro rfl; rw [mup_same] at ht; cases ht
        have nl : ∀ x, C10 K A M' told kept held x ≠ none → A x ≠ l := fun x hx => hA'.free hl hx
        have hA1 := hA'.fresh (o := .lst ((pairsD ps).map .im)) hl
        have hA2 := hA1.fresh (o := .tup [.im (.str "under"), .im (.str z), .mu l]) ht
        have hl2 : mup (mup (mup S (A .s) (shO K M')) l (.lst ((pairsD ps).map .im))) t (.tup [.im (.str "under"), .im (.str z), .mu l]) l = some (.lst ((pairsD ps).map .im)) := by rw [mup_ne (Ne.symm ntl), mup_same]
        have ht2 : mup (mup (mup S (A .s) (shO K M')) l (.lst ((pairsD ps).map .im))) t (.tup [.im (.str "under"), .im (.str z), .mu l]) t = some (.tup [.im (.str "under"), .im (.str z), .mu l]) := mup_same
        have nt : ∀ x, C10 K A M' told kept held x ≠ none → A x ≠ t := fun x hx => hA1.free ht hx
        generalize mup (mup (mup S (A .s) (shO K M')) l (.lst ((pairsD ps).map .im))) t (.tup [.im (.str "under"), .im (.str z), .mu l]) = S3 at hA2 hl2 ht2 ⊢
        walk_at "md"
        refine m_bm ?_
        walk_at "md"
        refine m_ixM (hA2.get .tl _ rfl) (L10.at_ hwt) ?_
        have hrow := L10.get hA2 (List.getElem?_eq_getElem hwt)
        refine ⟨tyL_M hrow, ?_⟩
        walk_at "md"
        refine ⟨_, .under z ps, rfl, .inr ⟨z, ps, t, l, rfl, rfl, ht2, hl2⟩, ?_⟩
        walk_at "md"
        refine m_app hrow (by rw [List.length_map, hrd]; omega) ?_
        rw [hrd, show deedsM r.done ++ [MV.im (deedD (.under z ps))] = deedsM (r.done ++ [.under z ps]) by simp [deedsM]]
        have hA3 := L10.row (ds' := r.done ++ [.under z ps]) hA2 hwt
        have hrn : C10 K A M' told kept held (.row who) ≠ none := by simp [C10, hwt]
        have hl3 : mup S3 (A (.row who)) (.lst (deedsM (r.done ++ [.under z ps]))) l = some (.lst ((pairsD ps).map .im)) := by rw [mup_ne (Ne.symm (nl _ hrn))]; exact hl2
        have ht3 : mup S3 (A (.row who)) (.lst (deedsM (r.done ++ [.under z ps]))) t = some (.tup [.im (.str "under"), .im (.str z), .mu l]) := by rw [mup_ne (Ne.symm (nt _ hrn))]; exact ht2
        have nl3 : ∀ x, C10 K A M' (told.set who (r.done ++ [.under z ps])) kept held x ≠ none → A x ≠ l := fun x hx => by
          refine nl x fun z => hx ?_
          cases x with
          | row j =>
            by_cases e : who = j
            · subst e; exact absurd z hrn
            · simp only [C10] at z ⊢; rw [List.getElem?_set_ne e]; exact z
          | tl => cases z
          | _ => exact z
        generalize mup S3 (A (.row who)) (.lst (deedsM (r.done ++ [.under z ps]))) = S4 at hA3 hl3 ht3 ⊢
        walk_at "md"
        refine ⟨fun _ => ?_, fun h => absurd h (by simp)⟩
        walk_at "md"
        refine m_bm ?_
        walk_at "md"
        refine ⟨tyL_M (hA3.get .hl _ rfl), ?_⟩
        walk_at "md"
        refine m_tupM ?_
        walk_at "md"
        refine m_listXI (.mu hl3) ?_
        walk_at "md"
        refine ⟨by simp, fun u hu => ?_⟩
        obtain ⟨B, hB, hsm⟩ := L10.hold hA3 hl3 nl3 hu
        have hhl := hJ.hl
        walk_at "md"
        refine m_app (by rw [mup_ne (hA3.free hu (by simp [C10]))]; exact hA3.get .hl _ rfl) (by rw [List.length_map, List.length_range]; omega) ?_
        have hpu : ps.length ≤ 60000 := hdb z ps rfl
        walk_at "md"
        refine up (q true _ B M' _ kept _ hsm hB (hJ10.hold (shaped_pairs hdk.2) (by unfold pairsD; rw [List.length_map]; exact hpu) (by omega)) hl' (by rw [List.length_append, List.length_singleton]; omega))
  · walk_at "md"
    refine And.symm (m_or2 (b2 := decide (more / 16 % 2 = 0)) (fun hP => ?_) ⟨fun _ => ?_, fun _ => ?_⟩)
    · walk_at "md"
      exact hP
    · -- keep
      walk_at "md"
      refine m_methS hW ?_
      walk_at "md"
      refine ⟨A .s, rfl, i_shO hs (by decide +kernel), ?_⟩
      walk_at "md"
      refine ⟨A .s, M, _, rfl, hs, hok, trivial, ?_⟩
      cases hg : M.going (.int (who : Nat)) with
      | error cc =>
        refine ⟨true, kx.deal cc (going_err hg), fun _ a => ?_, fun z => (nomatch z)⟩
        walk_at "md"
        exact up (q false S A M told kept held sm hA (hJ.mono (by omega)) rfl (by omega))
      | ok i =>
        obtain rfl := who_ hg
        dsimp only
        intro r hr ho
        cases hp : M.placeOf r with
        | none =>
          refine ⟨true, kx.deal _ (by simp [dealErrs]), fun _ a => ?_, fun z => (nomatch z)⟩
          walk_at "md"
          exact up (q false _ A _ told kept held sm (L10.sh hA) ⟨(hJ.j.drop hr ho).1, hJ.ho, Nat.le_trans hJ.hl (by omega), hJ.db⟩ (hJ.j.drop hr ho).2 (by omega))
        | some p =>
          have hA' := L10.sh (M' := M.keepAt i r p) hA
          walk_at "md"
          refine m_bm ?_
          walk_at "md"
          have hk := hA'.get .kp _ rfl
          refine ⟨tyL_M hk, ?_⟩
          walk_at "md"
          refine m_app hk (by rw [natsM_len]; omega) ?_
          rw [nats_snoc]
          walk_at "md"
          exact up (q true _ A _ told _ held sm (L10.kp hA') ⟨(hJ.j.keep hr ho hp).1, hJ.ho, Nat.le_trans hJ.hl (by omega), hJ.db⟩ (hJ.j.keep hr ho hp).2 (by omega))
    · -- drop
      walk_at "md"
      refine m_methS hW ?_
      walk_at "md"
      refine ⟨A .s, rfl, i_shO hs (by decide +kernel), ?_⟩
      walk_at "md"
      refine ⟨A .s, M, _, rfl, hs, hok, trivial, ?_⟩
      cases hg : M.going (.int (who : Nat)) with
      | error cc =>
        refine ⟨true, kx.deal cc (going_err hg), fun _ a => ?_, fun z => (nomatch z)⟩
        walk_at "md"
        exact up (q false S A M told kept held sm hA (hJ.mono (by omega)) rfl (by omega))
      | ok i =>
        obtain rfl := who_ hg
        dsimp only
        intro r hr ho
        walk_at "md"
        exact up (q true _ A _ told kept held sm (L10.sh hA) ⟨(hJ.j.drop hr ho).1, hJ.ho, Nat.le_trans hJ.hl (by omega), hJ.db⟩ (hJ.j.drop hr ho).2 (by omega))
theorem rd_l_short (h : sp_l_short P w K vs H Q E) : t_l_short P w K { nx := fun _ H' => Q .non H', rt := Q } (start ["_law_shelf", "_law_told", "_law_kept", "_law_held", "_law_pool_here", "_law_many", "_law_j", "_law_who"] vs) H := by
  refine rd_N h fun G0 ms S mQ mX h => ?_
  obtain ⟨A, pool, c, M, told, kept, held, many, rfl, hA, hJ, hpool, hp1, hp2, hm, hc, q⟩ := h
  unfold t_l_short bodyN
  walk_at "s0"
  refine n_for (i_rng (n := 0) ?_)
  walk_at "md"
  refine ⟨_, rfl, by omega, by omega, fun i E' S' => ∃ B M' told' kept' held' v6 v7, Same10 A B ∧ Lay S' B (C10 K B M' told' kept' held') ∧ J10 pool (c + 3 * i) M' told' kept' held' ∧ M'.recs.length = M.recs.length + i ∧ held'.length ≤ held.length + 2 * i ∧ E' = [some (.mu (A .s)), some (.mu (A .tl)), some (.mu (A .kp)), some (.mu (A .hl)), some (.im (.lst (dStrs pool))), some (.im (.int (many : Nat))), v6, v7], ⟨A, M, told, kept, held, _, _, ⟨rfl, rfl, rfl, rfl⟩, hA, hJ, rfl, by omega, rfl⟩, fun _ _ _ _ _ => trivial, ?_, ?_⟩
  · rintro i m E' S' hi rfl ⟨B, M', told', kept', held', v6, v7, ⟨e1, e2, e3, e4⟩, hA', hJ', hl', hh', rfl⟩
    have him : i < many := by have : i < ((many : Nat) : Int).toNat := hi; omega
    have hlt := hJ'.j.len
    have hrb := hJ'.j.b.recs
    rw [← e1, ← e2, ← e3, ← e4]
    walk_at "md"
    refine m_bm ?_
    walk_at "md"
    have htl := hA'.get .tl _ rfl
    refine ⟨tyL_M htl, ?_⟩
    walk_at "md"
    refine m_lstM ?_
    walk_at "md"
    refine ⟨by simp, fun p hp => ?_⟩
    walk_at "md"
    refine m_app (by rw [mup_ne (hA'.free hp (by simp [C10]))]; exact htl) (by rw [List.length_map, List.length_range]; omega) ?_
    obtain ⟨B2, hB, f1, f2, f3, f4⟩ := L10.more hA' hp
    have hJB : J10 pool (c + 3 * i + 1) M'.begun (told' ++ [[]]) kept' held' := ⟨hJ'.j.begun, hJ'.ho, Nat.le_trans hJ'.hl (by omega), fun ds hds d hd => (List.mem_append.mp hds).elim (fun g => hJ'.db ds g d hd) (fun g => by rw [List.mem_singleton.mp g] at hd; cases hd)⟩
    generalize mup (mup S' p (.lst [])) (B .tl) (.lst (((List.range told'.length).map fun i => .mu (B (.row i))) ++ [.mu p])) = S2 at hB ⊢
    rw [← f1, ← f2, ← f3, ← f4]
    walk_at "md"
    refine m_lenM (hB.get .tl _ rfl) ?_
    rw [List.length_map, List.length_range, List.length_append, List.length_singleton]
    walk_at "md"
    refine m_meth0 ?_
    walk_at "md"
    refine ⟨B2 .s, rfl, i_shO (hB.get .s _ rfl) (by decide +kernel), ?_⟩
    walk_at "md"
    refine ⟨B2 .s, M', rfl, hB.get .s _ rfl, by omega, ?_⟩
    have hC := L10.sh (M' := M'.begun) hB
    generalize mup S2 (B2 .s) (shO K M'.begun) = S3 at hC ⊢
    rw [show (((told'.length + 1 : Nat) : Int) - 1) = ((M'.recs.length : Nat) : Int) by omega]
    walk_at "md"
    refine ⟨fun _ => ?_, fun h => absurd h (by simp)⟩
    walk_at "md"
    rw [strs_len]
    refine m_mod (by omega) ?_
    obtain ⟨n, hn, hat⟩ := pool_at (d := (i : Int)) hp1
    refine m_ixI hat ?_
    walk_at "md"
    have hbl : M'.begun.recs.length = M'.recs.length + 1 := by show (M'.recs ++ _).length = _; rw [List.length_append]; rfl
    refine ⟨B2, pool, _, M'.begun, _, kept', held', M'.recs.length, n, 7, i, rfl, hC, hJB, hpool, hp2, by omega, by omega, .inl hn, fun b S4 B4 M4 told4 kept4 held4 ⟨g1, g2, g3, g4⟩ hA4 hJ4 hl4 hh4 => ?_⟩
    rw [← g1, ← g2, ← g3, ← g4]
    walk_at "md"
    refine ⟨B4, pool, _, M4, _, kept4, held4, M'.recs.length, _, 13, 0, rfl, hA4, hJ4, hpool, hp2, by omega, by omega, .inr (by decide), fun b S5 B5 M5 told5 kept5 held5 ⟨k1, k2, k3, k4⟩ hA5 hJ5 hl5 hh5 => ?_⟩
    walk_at "md"
    exact ⟨B5, M5, told5, kept5, held5, _, _, ⟨by rw [k1, g1, f1, e1], by rw [k2, g2, f2, e2], by rw [k3, g3, f3, e3], by rw [k4, g4, f4, e4]⟩, hA5, hJ5.mono (by omega), by omega, by omega, by rw [g1, g2, g3, g4, f1, f2, f3, f4]; rfl⟩
  · rintro E' S' ⟨B, M', told', kept', held', v6, v7, hsm, hA', hJ', hl', hh', rfl⟩
    have hmn : (srcR ((many : Nat) : Int).toNat).n = many := rfl
    rw [hmn] at hJ' hl' hh'
    exact up (q S' B M' told' kept' held' hsm hA' hJ' hl' hh')
end
end Kr
set_option maxHeartbeats 2000000
namespace Kr
open PySem PySem.Spec L2
def mp_l_played (K : PySem.W.Frag) : Mp := fun ms S Q _ => ∃ (s : Addr) (pool : List Str) (cells : List Int), ms = [.mu s, .im (.lst (cells.map .int)), .im (.lst (dStrs pool))] ∧ S s = some (shO K ⟨[], [], []⟩) ∧ cells.length ≤ 90 ∧ (∀ n ∈ pool, NameOk n) ∧ 1 ≤ pool.length ∧ pool.length ≤ 140 ∧
  ∀ S' A M told kept held t, A .s = s → Lay S' A (C10 K A M told kept held) → J10 pool 2000 M told kept held → S' t = some (.tup [.mu (A .tl), .mu (A .kp), .mu (A .hl)]) → (∀ x, C10 K A M told kept held x ≠ none → A x ≠ t) → Q (.mu t) S'
abbrev sp_l_played (_ : Program) (_ : World) (K : PySem.W.Frag) : Sp := lift K (mp_l_played K)
theorem len4 {n : Nat} (h : 1 ≤ n) : ∃ d : Int, (if (4 : Int) < (n : Int) then (4 : Int) else (n : Int)) = d ∧ 1 ≤ d ∧ d ≤ n := by
  by_cases h4 : (4 : Int) < (n : Int)
  · exact ⟨4, if_pos h4, by omega, by omega⟩
  · exact ⟨n, if_neg h4, by omega, by omega⟩
theorem who_back {n : Nat} {x d : Int} (h1 : 1 ≤ d) (h2 : d ≤ n) : ∃ who : Nat, (n : Int) - 1 - x % d = who ∧ who < n := by
  have a := Int.emod_nonneg x (show d ≠ 0 by omega)
  have b := Int.emod_lt_of_pos x (show 0 < d by omega)
  exact ⟨((n : Int) - 1 - x % d).toNat, by omega, by omega⟩
theorem who_mod {n : Nat} {x d : Int} (h1 : 1 ≤ d) (h2 : d ≤ n) : ∃ who : Nat, x % d = who ∧ who < n := by
  have a := Int.emod_nonneg x (show d ≠ 0 by omega)
  have b := Int.emod_lt_of_pos x (show 0 < d by omega)
  exact ⟨(x % d).toNat, by omega, by omega⟩
def a10 (s tl kp hl p : Addr) : T10 → Addr
  | .s => s | .tl => tl | .kp => kp | .hl => hl | .row _ => p | .ht _ => p | .ha _ => p
theorem lay0 {K : PySem.W.Frag} {S : MS} {s tl kp hl p : Addr} {M : ShM} (h1 : S s = some (shO K M)) (h2 : S tl = some (.lst [.mu p])) (h3 : S kp = some (.lst [])) (h5 : S hl = some (.lst [])) (h4 : S p = some (.lst [])) (n : kp ≠ p) (n2 : hl ≠ p) (n3 : hl ≠ kp) : Lay S (a10 s tl kp hl p) (C10 K (a10 s tl kp hl p) M [[]] [] []) := by
  have d1 : s ≠ tl := by rintro rfl; rw [h1] at h2; cases h2
  have d2 : s ≠ kp := by rintro rfl; rw [h1] at h3; cases h3
  have d3 : s ≠ p := by rintro rfl; rw [h1] at h4; cases h4
  have d4 : tl ≠ kp := by rintro rfl; rw [h2] at h3; cases h3
  have d5 : tl ≠ p := by rintro rfl; rw [h2] at h4; cases h4
  have d6 : s ≠ hl := by rintro rfl; rw [h1] at h5; cases h5
  have d7 : tl ≠ hl := by rintro rfl; rw [h2] at h5; cases h5
  have row : ∀ i, C10 K (a10 s tl kp hl p) M [[]] [] [] (.row i) ≠ none → i = 0 := fun i h => by
    cases i with
    | zero => rfl
    | succ i => exact absurd rfl h
  refine ⟨fun t o e => ?_, fun t u ht hu e => ?_⟩
  · cases t with
    | s => cases e; exact h1
    | tl => cases e; exact h2
    | kp => cases e; exact h3
    | hl => cases e; exact h5
    | row i =>
      have := row i (by rw [e]; simp)
      subst this
      cases e; exact h4
    | ht j => cases e
    | ha j => cases e
  · cases t with
    | ht j => exact absurd rfl ht
    | ha j => exact absurd rfl ht
    | s => cases u with
      | s => rfl
      | tl => exact absurd e d1
      | kp => exact absurd e d2
      | hl => exact absurd e d6
      | row j => exact absurd e d3
      | ht j => exact absurd rfl hu
      | ha j => exact absurd rfl hu
    | tl => cases u with
      | s => exact absurd e.symm d1
      | tl => rfl
      | kp => exact absurd e d4
      | hl => exact absurd e d7
      | row j => exact absurd e d5
      | ht j => exact absurd rfl hu
      | ha j => exact absurd rfl hu
    | kp => cases u with
      | s => exact absurd e.symm d2
      | tl => exact absurd e.symm d4
      | kp => rfl
      | hl => exact absurd e.symm n3
      | row j => exact absurd e n
      | ht j => exact absurd rfl hu
      | ha j => exact absurd rfl hu
    | hl => cases u with
      | s => exact absurd e.symm d6
      | tl => exact absurd e.symm d7
      | kp => exact absurd e n3
      | hl => rfl
      | row j => exact absurd e n2
      | ht j => exact absurd rfl hu
      | ha j => exact absurd rfl hu
    | row i => cases u with
      | s => exact absurd e.symm d3
      | tl => exact absurd e.symm d5
      | kp => exact absurd e.symm n
      | hl => exact absurd e.symm n2
      | row j => rw [row i ht, row j hu]
      | ht j => exact absurd rfl hu
      | ha j => exact absurd rfl hu
theorem shaped_natsD (xs : List Nat) : SeqAt.shaped (toP (.lst (dNats xs))) = true := shaped_nats xs
theorem Same10.trans {A B C : T10 → Addr} (h : Same10 A B) (g : Same10 B C) : Same10 A C := ⟨g.1.trans h.1, g.2.1.trans h.2.1, g.2.2.1.trans h.2.2.1, g.2.2.2.trans h.2.2.2⟩
section
variable {P : Program} {w : World} {K : PySem.W.Frag} {vs : List V} {H : Hp} {Q : VK} {E : XK}
theorem len_l_played (h : sp_l_played P w K vs H Q E) : vs.length = 3 := lift_len (by rintro ms S mQ mX ⟨_, _, _, rfl, _⟩; rfl) h
def t_l_played_j1 (P : Program) (w : World) (K : PySem.W.Frag) : TS :=
  (tSeq (tAsg (tMeth (He.ga K "Shelf") "order" (sp_Shelf_order P w K) [] E0 (tVar 0) tNil) (gName 13)) (tDrop (tBM K "list" rAppend (tVar 5) (tCons (tTup (tCons (tVar 13) (tCons (tCB (c_list K) (tCons (tVar 13) tNil)) tNil))) tNil))))
def t_l_played_j2 (P : Program) (w : World) (K : PySem.W.Frag) : TS :=
  (tSeq (tIfS (tTest (tOp rEq (tOp r_mod (tOp r_div (tVar 10) (tC (.int 400))) (tC (.int 3))) (tC (.int 0)))) (tSeq (tAsg (tMeth (He.ga K "Shelf") "deeds" (sp_Shelf_deeds P w K) [] E0 (tVar 0) (tCons (tVar 11) tNil)) (gName 12)) (tSeq (tIfS (tNot (tB (tCall (sp_l_deeds_same P w K) [] E0 (tCons (tVar 12) (tCons (tOp (rIxL K) (tVar 3) (tVar 11)) tNil))))) (tRet (tC .non)) tNext) (tDrop (tBM K "list" rAppend (tVar 5) (tCons (tTup (tCons (tVar 12) (tCons (tLc (iList K (tVar 12)) (gName 14) tYes (tCall (sp_l_copied P w K) [] E0 (tCons (tVar 14) tNil)) [14]) tNil))) tNil))))) tNext) (t_l_played_j1 P w K))
def t_l_played_j3 (P : Program) (w : World) (K : PySem.W.Frag) : TS :=
  (tSeq (tIfS (tTest (tOp rEq (tOp r_mod (tVar 10) (tC (.int 5))) (tC (.int 0)))) (tSeq (tDrop (tBM K "list" rAppend (tVar 3) (tCons (tLst tNil) tNil))) (tIfS (tTest (tOp rNe (tMeth (He.ga K "Shelf") "begin" (sp_Shelf_begin P w K) [] E0 (tVar 0) tNil) (tOp r_sub (tCB (c_len K) (tCons (tVar 3) tNil)) (tC (.int 1))))) (tRet (tC .non)) tNext)) (tIfS (tAnd (tTest (tOp rEq (tOp r_mod (tOp r_div (tVar 10) (tC (.int 5))) (tC (.int 80))) (tC (.int 7)))) (tTest (tOp r_lt (tCB (c_len K) (tCons (tVar 3) tNil)) (tC (.int 60))))) (tDrop (tCall (sp_l_short P w K) [] E0 (tCons (tVar 0) (tCons (tVar 3) (tCons (tVar 4) (tCons (tVar 5) (tCons (tVar 2) (tCons (tOp r_mod (tOp r_div (tVar 10) (tC (.int 800))) (tC (.int 40))) tNil)))))))) (tDrop (tCall (sp_l_tried P w K) [] E0 (tCons (tVar 0) (tCons (tVar 3) (tCons (tVar 4) (tCons (tVar 5) (tCons (tVar 11) (tCons (tOp (rIxL K) (tVar 2) (tOp r_mod (tOp r_div (tVar 10) (tC (.int 9600))) (tCB (c_len K) (tCons (tVar 2) tNil)))) (tCons (tOp r_div (tVar 10) (tC (.int 1315200))) (tCons (tVar 9) tNil)))))))))))) (t_l_played_j2 P w K))
def t_l_played_j4 (P : Program) (w : World) (K : PySem.W.Frag) : TS :=
  (tSeq (tIfS (tTest (tOp rEq (tOp r_mod (tVar 8) (tC (.int 6))) (tC (.int 5)))) (tAsg (tOp r_mod (tOp r_div (tVar 10) (tC (.int 800))) (tCB (c_len K) (tCons (tVar 3) tNil))) (gName 11)) tNext) (t_l_played_j3 P w K))
def t_l_played (P : Program) (w : World) (K : PySem.W.Frag) : TS :=
  (tSeq (tAsg (tLst (tCons (tLst tNil) tNil)) (gName 3)) (tSeq (tAsg (tLst tNil) (gName 4)) (tSeq (tAsg (tLst tNil) (gName 5)) (tSeq (tIfS (tTest (tOp rNe (tMeth (He.ga K "Shelf") "begin" (sp_Shelf_begin P w K) [] E0 (tVar 0) tNil) (tC (.int 0)))) (tRet (tC .non)) tNext) (tSeq (tFor (iEnum K (tCons (tVar 2) tNil)) (gTup K 2 (gCons (gName 6) (gCons (gName 7) gNil))) (tDrop (tCall (sp_l_tried P w K) [] E0 (tCons (tVar 0) (tCons (tVar 3) (tCons (tVar 4) (tCons (tVar 5) (tCons (tC (.int 0)) (tCons (tVar 7) (tCons (tC (.int 7)) (tCons (tVar 6) tNil))))))))))) (tSeq (tDrop (tCall (sp_l_tried P w K) [] E0 (tCons (tVar 0) (tCons (tVar 3) (tCons (tVar 4) (tCons (tVar 5) (tCons (tC (.int 0)) (tCons (tC (.str "")) (tCons (tC (.int 13)) (tCons (tC (.int 0)) tNil)))))))))) (tSeq (tFor (iEnum K (tCons (tVar 1) tNil)) (gTup K 2 (gCons (gName 8) (gCons (gName 9) gNil))) (tSeq (tAsg (tCall (sp_l_mixed P w K) [] E0 (tCons (tOp r_add (tVar 9) (tOp r_mul (tC (.int 131)) (tVar 8))) tNil)) (gName 10)) (tSeq (tAsg (tOp r_sub (tOp r_sub (tCB (c_len K) (tCons (tVar 3) tNil)) (tC (.int 1))) (tOp r_mod (tOp r_div (tVar 10) (tC (.int 800))) (tCB c_min2 (tCons (tCB (c_len K) (tCons (tVar 3) tNil)) (tCons (tC (.int 4)) tNil))))) (gName 11)) (tSeq (tIfS (tTest (tOp rEq (tOp r_mod (tVar 8) (tC (.int 6))) (tC (.int 2)))) (tAsg (tOp r_mod (tOp r_div (tVar 10) (tC (.int 800))) (tCB c_min2 (tCons (tCB (c_len K) (tCons (tVar 3) tNil)) (tCons (tC (.int 4)) tNil)))) (gName 11)) tNext) (t_l_played_j4 P w K))))) (tRet (tTup (tCons (tVar 3) (tCons (tVar 4) (tCons (tVar 5) tNil))))))))))))

variable {G0 : Hp} {S : MS} {A : T10 → Addr} {pool : List Str} {k who : Nat} {M : ShM} {told : List (List Deed)} {kept : List Nat} {held : Held} {more cell turn : Int} {u1 u6 u7 u8 u9 u10 u11 u12 u13 u14 : Option MV} {nx : Env → MS → Prop} {rt : MV → MS → Prop} {bk ct : Env → MS → Prop}
theorem pl_j1 (hA : Lay S A (C10 K A M told kept held)) (hJ : J10 pool k M told kept held) (hk : k ≤ 2900) (hh : held.length + 1 ≤ 4 * k)
    (q : ∀ S' B held' v13, Same10 A B → Lay S' B (C10 K B M told kept held') → J10 pool k M told kept held' → held'.length = held.length + 1 →
      nx [some (.mu (A .s)), u1, some (.im (.lst (dStrs pool))), some (.mu (A .tl)), some (.mu (A .kp)), some (.mu (A .hl)), u6, u7, u8, u9, u10, u11, u12, v13, u14] S') :
    EvS K G0 (t_l_played_j1 P w K) [some (.mu (A .s)), u1, some (.im (.lst (dStrs pool))), some (.mu (A .tl)), some (.mu (A .kp)), some (.mu (A .hl)), u6, u7, u8, u9, u10, u11, u12, u13, u14] S ⟨nx, rt, bk, ct⟩ := by
  have hs := hA.get .s _ rfl
  unfold t_l_played_j1
  walk_at "md"
  refine m_meth0 ?_
  walk_at "md"
  refine ⟨A .s, rfl, i_shO hs (by decide +kernel), ?_⟩
  walk_at "md"
  refine ⟨A .s, M, rfl, hs, fun l hl => ?_⟩
  have hA1 := hA.fresh (o := .lst ((dNats M.row).map .im)) hl
  have hl1 : mup S l (.lst ((dNats M.row).map .im)) l = some (.lst ((dNats M.row).map .im)) := mup_same
  have nl : ∀ x, C10 K A M told kept held x ≠ none → A x ≠ l := fun x hx => hA.free hl hx
  generalize mup S l (.lst ((dNats M.row).map .im)) = S1 at hA1 hl1 ⊢
  walk_at "md"
  refine m_bm ?_
  walk_at "md"
  refine ⟨tyL_M (hA1.get .hl _ rfl), ?_⟩
  walk_at "md"
  refine m_tupM ?_
  walk_at "md"
  refine m_listXI (.mu hl1) ?_
  walk_at "md"
  refine ⟨by simp, fun t ht => ?_⟩
  obtain ⟨B, hB, hsm⟩ := L10.hold hA1 hl1 nl ht
  have hhl := hJ.hl
  have hrl := hJ.j.b.row
  walk_at "md"
  refine m_app (by rw [mup_ne (hA1.free ht (by simp [C10]))]; exact hA1.get .hl _ rfl) (by rw [List.length_map, List.length_range]; omega) ?_
  exact q _ B _ _ hsm hB (hJ.hold (shaped_natsD M.row) (by unfold dNats dInts; rw [List.length_map, List.length_map]; omega) hh) (by rw [List.length_append, List.length_singleton])
theorem pl_j2 (hA : Lay S A (C10 K A M told kept held)) (hJ : J10 pool k M told kept held) (hpool : ∀ n ∈ pool, NameOk n) (hk : k ≤ 2900) (hw : who < M.recs.length) (hh : held.length + 2 ≤ 4 * k)
    (q : ∀ S' B held' v12 v13 v14, Same10 A B → Lay S' B (C10 K B M told kept held') → J10 pool k M told kept held' → held'.length ≤ held.length + 2 →
      nx [some (.mu (A .s)), u1, some (.im (.lst (dStrs pool))), some (.mu (A .tl)), some (.mu (A .kp)), some (.mu (A .hl)), u6, u7, u8, u9, some (.im (.int more)), some (.im (.int (who : Nat))), v12, v13, v14] S') :
    EvS K G0 (t_l_played_j2 P w K) [some (.mu (A .s)), u1, some (.im (.lst (dStrs pool))), some (.mu (A .tl)), some (.mu (A .kp)), some (.mu (A .hl)), u6, u7, u8, u9, some (.im (.int more)), some (.im (.int (who : Nat))), u12, u13, u14] S ⟨nx, rt, bk, ct⟩ := by
  have hs := hA.get .s _ rfl
  have hlt := hJ.j.len
  have hwt : who < told.length := by omega
  unfold t_l_played_j2
  walk_at "md"
  refine ⟨fun _ => ?_, fun _ => ?_⟩
  · have hr := List.getElem?_eq_getElem hw
    generalize M.recs[who] = r at hr
    have hget := hJ.j.get hr
    have hdl := (hJ.j.b.get hr).done
    walk_at "md"
    refine m_meth0 ?_
    walk_at "md"
    refine ⟨A .s, rfl, i_shO hs (by decide +kernel), ?_⟩
    walk_at "md"
    refine ⟨A .s, M, _, rfl, hs, trivial, fun r hr => by have := (hJ.j.b.rc r hr).done; omega, ?_⟩
    have hkn : M.known (.int (who : Nat)) = some who := by
      unfold ShM.known
      dsimp only
      rw [if_pos ⟨by omega, by omega⟩]; rfl
    rw [hkn]
    dsimp only
    intro r' hr'
    rw [hr] at hr'; cases hr'
    refine .inl fun l hl => ?_
    have e0 : (r.done.map fun d => MV.im (deedD d)) = (r.done.map deedD).map .im := by rw [List.map_map]; rfl
    rw [e0]
    have hA1 := hA.fresh (o := .lst ((r.done.map deedD).map .im)) hl
    have hl1 : mup S l (.lst ((r.done.map deedD).map .im)) l = some (.lst ((r.done.map deedD).map .im)) := mup_same
    have nl : ∀ x, C10 K A M told kept held x ≠ none → A x ≠ l := fun x hx => hA.free hl hx
    generalize mup S l (.lst ((r.done.map deedD).map .im)) = S1 at hA1 hl1 ⊢
    have hdb := hJ.db _ (List.mem_of_getElem? hget)
    have hml : ((r.done.map deedD).map MV.im).length = r.done.length := by rw [List.length_map, List.length_map]
    walk_at "md"
    refine m_ixM (hA1.get .tl _ rfl) (L10.at_ hwt) ?_
    walk_at "md"
    refine ⟨.mu l, A (.row who), _, r.done, rfl, ⟨l, rfl, hl1⟩, L10.get hA1 hget, hml, by omega, fun j d m e1 e2 => .inl ?_, hdb, ?_⟩
    · rw [List.getElem?_map, List.getElem?_map, e1] at e2
      exact (Option.some.inj e2).symm
    walk_at "md"
    refine m_bm ?_
    walk_at "md"
    refine ⟨tyL_M (hA1.get .hl _ rfl), ?_⟩
    walk_at "md"
    refine m_tupM ?_
    walk_at "md"
    refine m_lc (i_list ?_)
    walk_at "md"
    refine .inr ⟨l, _, rfl, hl1, by show ((r.done.map deedD).map MV.im).length ≤ 60000; omega, fun S2 hsub => hsub _ _ hl1, fun j => r.done[j]?.bind fun d => some (deedD d), ?_, ?_⟩
    · rintro j m S2 hj em hsub
      have em : ((r.done.map deedD).map MV.im)[j]? = some m := em
      rw [List.getElem?_map, List.getElem?_map] at em
      cases e : r.done[j]? with
      | none => rw [e] at em; cases em
      | some d =>
        rw [e] at em; cases em
        walk_at "md"
        refine ⟨rfl, fun _ => ?_, fun h => (nomatch h)⟩
        walk_at "md"
        refine ⟨_, d, rfl, .inl rfl, ?_⟩
        exact ⟨rfl, _, rfl, by show (r.done[j]?.bind fun d => some (deedD d)) = _; rw [e]; rfl⟩
    rw [show (srcM l ((r.done.map deedD).map MV.im)).n = r.done.length from hml, fm_range]
    rw [show (r.done.filterMap fun d => some (deedD d)) = r.done.map deedD by
      generalize r.done = ds
      induction ds with
      | nil => rfl
      | cons d ds ih => rw [List.filterMap_cons, ih]; rfl]
    walk_at "md"
    refine ⟨by simp, fun t ht => ?_⟩
    obtain ⟨B, hB, hsm⟩ := L10.hold hA1 hl1 nl ht
    have hhl := hJ.hl
    walk_at "md"
    refine m_app (by rw [mup_ne (hA1.free ht (by simp [C10]))]; exact hA1.get .hl _ rfl) (by rw [List.length_map, List.length_range]; omega) ?_
    have hJ2 := hJ.hold (shaped_deeds hpool (hJ.j.dk _ (List.mem_of_getElem? hget))) (by rw [List.length_map]; omega) (by omega)
    obtain ⟨b1, b2, b3, b4⟩ := hsm
    walk_at "md"
    generalize mup (mup S1 t (.tup [.mu l, .im (.lst (r.done.map deedD))])) (A .hl) (.lst (((List.range held.length).map fun j => .mu (A (.ht j))) ++ [.mu t])) = S6 at hB ⊢
    rw [← b1, ← b2, ← b3, ← b4] at q ⊢
    refine pl_j1 hB hJ2 hk (by rw [List.length_append, List.length_singleton]; omega) fun S' B2 held' v13 hsm2 hB2 hJ3 hl3 => ?_
    exact q _ B2 held' _ _ _ ⟨hsm2.1.trans b1, hsm2.2.1.trans b2, hsm2.2.2.1.trans b3, hsm2.2.2.2.trans b4⟩ hB2 hJ3 (by rw [List.length_append, List.length_singleton] at hl3; omega)
  · walk_at "md"
    refine pl_j1 hA hJ hk (by omega) fun S' B2 held' v13 hsm2 hB2 hJ3 hl3 => ?_
    exact q _ B2 held' _ _ _ hsm2 hB2 hJ3 (by omega)
theorem pl_j3 (hA : Lay S A (C10 K A M told kept held)) (hJ : J10 pool (3 * M.recs.length + k) M told kept held) (hpool : ∀ n ∈ pool, NameOk n) (hp1 : 1 ≤ pool.length) (hp2 : pool.length ≤ 160) (hk : k ≤ 300) (hr : M.recs.length ≤ 200) (hw : who < M.recs.length) (hh : held.length ≤ 3 * M.recs.length + 3 * k)
    (q : ∀ S' B M' told' kept' held' v12 v13 v14, Same10 A B → Lay S' B (C10 K B M' told' kept' held') → J10 pool (3 * M'.recs.length + (k + 1)) M' told' kept' held' → (M'.recs.length ≤ M.recs.length + 1 ∨ M'.recs.length ≤ 100) → M.recs.length ≤ M'.recs.length → held'.length ≤ 3 * M'.recs.length + 3 * (k + 1) →
      nx [some (.mu (A .s)), u1, some (.im (.lst (dStrs pool))), some (.mu (A .tl)), some (.mu (A .kp)), some (.mu (A .hl)), u6, u7, u8, some (.im (.int cell)), some (.im (.int more)), some (.im (.int (who : Nat))), v12, v13, v14] S') :
    EvS K G0 (t_l_played_j3 P w K) [some (.mu (A .s)), u1, some (.im (.lst (dStrs pool))), some (.mu (A .tl)), some (.mu (A .kp)), some (.mu (A .hl)), u6, u7, u8, some (.im (.int cell)), some (.im (.int more)), some (.im (.int (who : Nat))), u12, u13, u14] S ⟨nx, rt, bk, ct⟩ := by
  have hlt := hJ.j.len
  have htl := hA.get .tl _ rfl
  have hhl := hJ.hl
  unfold t_l_played_j3
  walk_at "md"
  refine ⟨fun _ => ?_, fun _ => ?_⟩
  · walk_at "md"
    refine m_bm ?_
    walk_at "md"
    refine ⟨tyL_M htl, ?_⟩
    walk_at "md"
    refine m_lstM ?_
    walk_at "md"
    refine ⟨by simp, fun p hp => ?_⟩
    walk_at "md"
    refine m_app (by rw [mup_ne (hA.free hp (by simp [C10]))]; exact htl) (by rw [List.length_map, List.length_range]; omega) ?_
    obtain ⟨B, hB, f1, f2, f3, f4⟩ := L10.more hA hp
    have hJB : J10 pool (3 * M.recs.length + k + 1) M.begun (told ++ [[]]) kept held := ⟨hJ.j.begun, hJ.ho, Nat.le_trans hJ.hl (by omega), fun ds hds d hd => (List.mem_append.mp hds).elim (fun g => hJ.db ds g d hd) (fun g => by rw [List.mem_singleton.mp g] at hd; cases hd)⟩
    generalize mup (mup S p (.lst [])) (A .tl) (.lst (((List.range told.length).map fun i => .mu (A (.row i))) ++ [.mu p])) = S2 at hB ⊢
    rw [← f1, ← f2, ← f3, ← f4] at q ⊢
    walk_at "md"
    refine m_meth0 ?_
    walk_at "md"
    refine ⟨B .s, rfl, i_shO (hB.get .s _ rfl) (by decide +kernel), ?_⟩
    walk_at "md"
    refine ⟨B .s, M, rfl, hB.get .s _ rfl, by omega, ?_⟩
    have hC := L10.sh (M' := M.begun) hB
    generalize mup S2 (B .s) (shO K M.begun) = S3 at hC ⊢
    walk_at "md"
    refine m_lenM (hC.get .tl _ rfl) ?_
    rw [List.length_map, List.length_range, List.length_append, List.length_singleton]
    walk_at "md"
    rw [show (((told.length + 1 : Nat) : Int) - 1) = ((M.recs.length : Nat) : Int) by omega]
    refine ⟨fun h => absurd h (by simp), fun _ => ?_⟩
    walk_at "md"
    have hbl : M.begun.recs.length = M.recs.length + 1 := by show (M.recs ++ _).length = _; rw [List.length_append]; rfl
    refine pl_j2 hC (hJB.mono (c' := 3 * M.begun.recs.length + (k + 1)) (by omega)) hpool (by omega) (by omega) (by omega) fun S' B2 held' v12 v13 v14 hsm2 hB2 hJ3 hl3 => ?_
    exact q S' B2 M.begun _ kept held' _ _ _ ⟨hsm2.1.trans f1, hsm2.2.1.trans f2, hsm2.2.2.1.trans f3, hsm2.2.2.2.trans f4⟩ hB2 hJ3 (.inl (by omega)) (by omega) (by omega)
  · walk_at "md"
    refine m_and2 (b2 := decide ((told.length : Int) < 60)) (fun hP => ?_) ⟨fun hb => ?_, fun hb => ?_⟩
    · walk_at "md"
      simp only [List.length_map, List.length_range]
      exact hP
    · -- short ones
      have h60 : told.length < 60 := by simp at hb; omega
      walk_at "md"
      obtain ⟨many, hm, hml⟩ := who_mod (n := 40) (x := more / 800) (d := 40) (by omega) (by omega)
      rw [hm]
      refine ⟨A, pool, _, M, told, kept, held, many, rfl, hA, hJ, hpool, hp1, hp2, by omega, by omega, fun S' B M' told' kept' held' ⟨f1, f2, f3, f4⟩ hA' hJ' hl' hh' => ?_⟩
      rw [← f1, ← f2, ← f3, ← f4] at q ⊢
      refine pl_j2 hA' (hJ'.mono (c' := 3 * M'.recs.length + (k + 1)) (by omega)) hpool (by omega) (by omega) (by omega) fun S6 B2 held6 v12 v13 v14 hsm2 hB2 hJ3 hl3 => ?_
      exact q S6 B2 M' told' kept' held6 _ _ _ ⟨hsm2.1.trans f1, hsm2.2.1.trans f2, hsm2.2.2.1.trans f3, hsm2.2.2.2.trans f4⟩ hB2 hJ3 (.inr (by omega)) (by omega) (by omega)
    · -- a deed
      walk_at "md"
      rw [strs_len]
      refine m_mod (by omega) ?_
      obtain ⟨n, hn, hat⟩ := pool_at (d := more / 9600) hp1
      refine m_ixI hat ?_
      walk_at "md"
      refine ⟨A, pool, _, M, told, kept, held, who, n, _, _, rfl, hA, hJ, hpool, hp2, by omega, hw, .inl hn, fun b S' B M' told' kept' held' ⟨f1, f2, f3, f4⟩ hA' hJ' hl' hh' => ?_⟩
      rw [← f1, ← f2, ← f3, ← f4] at q ⊢
      refine pl_j2 hA' (hJ'.mono (c' := 3 * M'.recs.length + (k + 1)) (by omega)) hpool (by omega) (by omega) (by omega) fun S6 B2 held6 v12 v13 v14 hsm2 hB2 hJ3 hl3 => ?_
      exact q S6 B2 M' told' kept' held6 _ _ _ ⟨hsm2.1.trans f1, hsm2.2.1.trans f2, hsm2.2.2.1.trans f3, hsm2.2.2.2.trans f4⟩ hB2 hJ3 (.inl (by omega)) (by omega) (by omega)
theorem pl_j4 (hA : Lay S A (C10 K A M told kept held)) (hJ : J10 pool (3 * M.recs.length + k) M told kept held) (hpool : ∀ n ∈ pool, NameOk n) (hp1 : 1 ≤ pool.length) (hp2 : pool.length ≤ 160) (hk : k ≤ 300) (hr : M.recs.length ≤ 200) (hw : who < M.recs.length) (hh : held.length ≤ 3 * M.recs.length + 3 * k)
    (q : ∀ S' B M' told' kept' held' v11 v12 v13 v14, Same10 A B → Lay S' B (C10 K B M' told' kept' held') → J10 pool (3 * M'.recs.length + (k + 1)) M' told' kept' held' → (M'.recs.length ≤ M.recs.length + 1 ∨ M'.recs.length ≤ 100) → M.recs.length ≤ M'.recs.length → held'.length ≤ 3 * M'.recs.length + 3 * (k + 1) →
      nx [some (.mu (A .s)), u1, some (.im (.lst (dStrs pool))), some (.mu (A .tl)), some (.mu (A .kp)), some (.mu (A .hl)), u6, u7, some (.im (.int turn)), some (.im (.int cell)), some (.im (.int more)), v11, v12, v13, v14] S') :
    EvS K G0 (t_l_played_j4 P w K) [some (.mu (A .s)), u1, some (.im (.lst (dStrs pool))), some (.mu (A .tl)), some (.mu (A .kp)), some (.mu (A .hl)), u6, u7, some (.im (.int turn)), some (.im (.int cell)), some (.im (.int more)), some (.im (.int (who : Nat))), u12, u13, u14] S ⟨nx, rt, bk, ct⟩ := by
  have hlt := hJ.j.len
  unfold t_l_played_j4
  walk_at "md"
  refine ⟨fun _ => ?_, fun _ => ?_⟩
  · walk_at "md"
    refine m_lenM (hA.get .tl _ rfl) ?_
    rw [List.length_map, List.length_range]
    obtain ⟨who2, hm, hml⟩ := who_mod (n := told.length) (x := more / 800) (d := told.length) (by omega) (by omega)
    refine m_mod (by omega) ?_
    rw [hm]
    walk_at "md"
    exact pl_j3 (who := who2) hA hJ hpool hp1 hp2 hk hr (by omega) hh fun S' B M' told' kept' held' v12 v13 v14 e a b c d f => q S' B M' told' kept' held' _ _ _ _ e a b c d f
  · walk_at "md"
    exact pl_j3 (who := who) hA hJ hpool hp1 hp2 hk hr hw hh fun S' B M' told' kept' held' v12 v13 v14 e a b c d f => q S' B M' told' kept' held' _ _ _ _ e a b c d f
theorem rd_l_played (h : sp_l_played P w K vs H Q E) : t_l_played P w K { nx := fun _ H' => Q .non H', rt := Q } (start ["_law_shelf", "_law_script", "_law_pool_here", "_law_told", "_law_kept", "_law_held", "_law_k", "_law_name", "_law_turn", "_law_cell", "_law_more", "_law_who", "_law_deeds", "_law_row", "_law_deed"] vs) H := by
  refine rd_N h fun G0 ms S mQ mX h => ?_
  obtain ⟨s, pool, cells, rfl, hs, hcl, hpool, hp1, hp2, q⟩ := h
  unfold t_l_played bodyN
  walk_at "s0"
  walk_at "md"
  refine m_lstM ?_
  walk_at "md"
  refine m_lstM ?_
  walk_at "md"
  refine ⟨by simp, fun p hp => ?_⟩
  walk_at "md"
  refine ⟨by simp, fun tl htl => ?_⟩
  walk_at "md"
  refine m_lstM ?_
  walk_at "md"
  refine ⟨by simp, fun kp hkp => ?_⟩
  walk_at "md"
  refine m_lstM ?_
  walk_at "md"
  refine ⟨by simp, fun hl hhl => ?_⟩
  have nsp : s ≠ p := by rintro rfl; rw [hs] at hp; cases hp
  have nst : s ≠ tl := by rintro rfl; rw [mup_ne nsp, hs] at htl; cases htl
  have ntp : tl ≠ p := by rintro rfl; rw [mup_same] at htl; cases htl
  have nkt : kp ≠ tl := by rintro rfl; rw [mup_same] at hkp; cases hkp
  have nkp : kp ≠ p := by rintro rfl; rw [mup_ne (Ne.symm ntp), mup_same] at hkp; cases hkp
  have nsk : s ≠ kp := by rintro rfl; rw [mup_ne nst, mup_ne nsp, hs] at hkp; cases hkp
  obtain ⟨nhk, hhl1⟩ := mup_none hhl
  obtain ⟨nht, hhl2⟩ := mup_none hhl1
  obtain ⟨nhp, hhl3⟩ := mup_none hhl2
  have nsh : s ≠ hl := by rintro rfl; rw [hs] at hhl3; cases hhl3
  have hs1 : mup (mup (mup (mup S p (.lst [])) tl (.lst [.mu p])) kp (.lst [])) hl (.lst []) s = some (shO K ⟨[], [], []⟩) := by rw [mup_ne nsh, mup_ne nsk, mup_ne nst, mup_ne nsp]; exact hs
  have ht1 : mup (mup (mup (mup S p (.lst [])) tl (.lst [.mu p])) kp (.lst [])) hl (.lst []) tl = some (.lst [.mu p]) := by rw [mup_ne (Ne.symm nht), mup_ne (Ne.symm nkt), mup_same]
  have hk1 : mup (mup (mup (mup S p (.lst [])) tl (.lst [.mu p])) kp (.lst [])) hl (.lst []) kp = some (.lst []) := by rw [mup_ne (Ne.symm nhk), mup_same]
  have hh1 : mup (mup (mup (mup S p (.lst [])) tl (.lst [.mu p])) kp (.lst [])) hl (.lst []) hl = some (.lst []) := mup_same
  have hp0 : mup (mup (mup (mup S p (.lst [])) tl (.lst [.mu p])) kp (.lst [])) hl (.lst []) p = some (.lst []) := by rw [mup_ne (Ne.symm nhp), mup_ne (Ne.symm nkp), mup_ne (Ne.symm ntp), mup_same]
  generalize mup (mup (mup (mup S p (.lst [])) tl (.lst [.mu p])) kp (.lst [])) hl (.lst []) = S1 at hs1 ht1 hk1 hh1 hp0 ⊢
  walk_at "md"
  refine m_meth0 ?_
  walk_at "md"
  refine ⟨s, rfl, i_shO hs1 (by decide +kernel), ?_⟩
  walk_at "md"
  refine ⟨s, _, rfl, hs1, by simp, ?_⟩
  have hA := lay0 (K := K) (S := mup S1 s (shO K (⟨[], [], []⟩ : ShM).begun)) mup_same (by rw [mup_ne (Ne.symm nst)]; exact ht1) (by rw [mup_ne (Ne.symm nsk)]; exact hk1) (by rw [mup_ne (Ne.symm nsh)]; exact hh1) (by rw [mup_ne (Ne.symm nsp)]; exact hp0) nkp nhp nhk
  generalize mup S1 s (shO K (⟨[], [], []⟩ : ShM).begun) = S2 at hA ⊢
  have hJ : J12 pool 1 (⟨[], [], []⟩ : ShM).begun [[]] [] := J12.begun (told := []) (kept := []) (M := ⟨[], [], []⟩) (c := 0) ⟨⟨fun n h => (nomatch h), List.nodup_nil, fun p h => (nomatch h), Nat.zero_le _, Nat.zero_le _, fun x h => (nomatch h), fun r h => (nomatch h)⟩, Ser.new, rfl, List.Perm.nil, fun ds h => (nomatch h), VrOk.new⟩
  have hJ : J10 pool 1 (⟨[], [], []⟩ : ShM).begun [[]] [] [] := ⟨hJ, fun p h => (nomatch h), Nat.zero_le _, fun ds hds d hd => by rw [List.mem_singleton.mp hds] at hd; cases hd⟩
  obtain ⟨A, hA0, a1, a2, a3, a4⟩ : ∃ A, A = a10 s tl kp hl p ∧ A .s = s ∧ A .tl = tl ∧ A .kp = kp ∧ A .hl = hl := ⟨_, rfl, rfl, rfl, rfl, rfl⟩
  rw [← hA0] at hA
  clear hA0
  subst a1 a2 a3 a4
  have hl0 : (⟨[], [], []⟩ : ShM).begun.recs.length = 1 := rfl
  generalize (⟨[], [], []⟩ : ShM).begun = M0 at hA hJ hl0
  walk_at "md"
  refine ⟨fun h => absurd h (by simp), fun _ => ?_⟩
  walk_at "md"
  refine n_forE ?_
  walk_at "md"
  refine ⟨_, .im _, fun i E' S' => ∃ B M' told' kept' held' v6 v7, Same10 A B ∧ Lay S' B (C10 K B M' told' kept' held') ∧ J10 pool (1 + i) M' told' kept' held' ∧ M'.recs.length = 1 ∧ held'.length ≤ i ∧ E' = [some (.mu (A .s)), some (.im (.lst (cells.map .int))), some (.im (.lst (dStrs pool))), some (.mu (A .tl)), some (.mu (A .kp)), some (.mu (A .hl)), v6, v7, none, none, none, none, none, none, none], ⟨A, M0, _, _, _, _, _, ⟨rfl, rfl, rfl, rfl⟩, hA, hJ, hl0, Nat.zero_le _, rfl⟩, fun _ _ _ _ _ => .im _, ?_, ?_⟩
  · rintro i x E' S' ex hi ⟨B, M', told', kept', held', v6, v7, ⟨b1, b2, b3, b4⟩, hA', hJ', hl', hh', rfl⟩
    have hi' : i < pool.length := by have : i < ((dStrs pool).map MV.im).length := hi; rw [List.length_map, strs_len] at this; exact this
    have hn := List.getElem?_eq_getElem hi'
    have hnm := List.getElem_mem hi'
    generalize pool[i] = n at hn hnm
    have hx : x = .im (.str n) := by
      unfold dStrs at ex
      rw [List.getElem?_map, List.getElem?_map, hn] at ex
      exact (Option.some.inj ex).symm
    subst hx
    rw [← b1, ← b2, ← b3, ← b4]
    walk_at "md"
    refine ⟨B, pool, _, M', told', kept', held', 0, n, 7, _, rfl, hA', hJ', hpool, by omega, by omega, by omega, .inl hnm, fun b S4 B4 M4 told4 kept4 held4 ⟨g1, g2, g3, g4⟩ hA4 hJ4 hl4 hh4 => ?_⟩
    walk_at "md"
    exact ⟨B4, M4, told4, kept4, held4, _, _, ⟨g1.trans b1, g2.trans b2, g3.trans b3, g4.trans b4⟩, hA4, hJ4, by omega, by omega, by rw [b1, b2, b3, b4]; rfl⟩
  · rintro E' S' ⟨B, M', told', kept', held', v6, v7, ⟨b1, b2, b3, b4⟩, hA', hJ', hl', hh', rfl⟩
    rw [List.length_map, strs_len] at hJ' hh'
    rw [← b1, ← b2, ← b3, ← b4]
    walk_at "md"
    refine ⟨B, pool, _, M', told', kept', held', 0, _, 13, 0, rfl, hA', hJ', hpool, by omega, by omega, by omega, .inr (by decide), fun b S4 B4 M4 told4 kept4 held4 ⟨g1, g2, g3, g4⟩ hA4 hJ4 hl4 hh4 => ?_⟩
    rw [← g1, ← g2, ← g3, ← g4]
    walk_at "md"
    refine n_forE ?_
    walk_at "md"
    refine ⟨_, .im _, fun i E' S' => ∃ B' M' told' kept' held' v6 v7 v8 v9 v10 v11 v12 v13 v14, Same10 B4 B' ∧ Lay S' B' (C10 K B' M' told' kept' held') ∧ J10 pool (3 * M'.recs.length + (142 + i)) M' told' kept' held' ∧ 1 ≤ M'.recs.length ∧ M'.recs.length ≤ 100 + i ∧ held'.length ≤ 3 * M'.recs.length + 3 * (142 + i) ∧ E' = [some (.mu (B4 .s)), some (.im (.lst (cells.map .int))), some (.im (.lst (dStrs pool))), some (.mu (B4 .tl)), some (.mu (B4 .kp)), some (.mu (B4 .hl)), v6, v7, v8, v9, v10, v11, v12, v13, v14], ⟨B4, M4, told4, kept4, held4, _, _, _, _, _, _, _, _, _, ⟨rfl, rfl, rfl, rfl⟩, hA4, hJ4.mono (by omega), by omega, by omega, by omega, rfl⟩, fun _ _ _ _ _ => .im _, ?_, ?_⟩
    · rintro i x E' S' ex hi ⟨B', M', told', kept', held', v6, v7, v8, v9, v10, v11, v12, v13, v14, ⟨e1, e2, e3, e4⟩, hA', hJ', h1, h100, hh', rfl⟩
      obtain ⟨cell, rfl⟩ : ∃ cell : Int, x = .im (.int cell) := by
        rw [List.getElem?_map, List.getElem?_map] at ex
        cases e : cells[i]? with
        | none => rw [e] at ex; cases ex
        | some n => rw [e] at ex; cases ex; exact ⟨n, rfl⟩
      have hi90 : i < 90 := by rw [List.length_map, List.length_map] at hi; omega
      have hlt := hJ'.j.len
      rw [← e1, ← e2, ← e3, ← e4]
      have htl := hA'.get .tl _ rfl
      walk_at "md"
      refine ⟨_, rfl, ?_⟩
      generalize mixF (cell + 131 * (i : Int)) = more
      walk_at "md"
      simp only [List.length_map, List.length_range]
      obtain ⟨d4, hd4, hd1, hd2⟩ := len4 (n := told'.length) (by omega)
      rw [hd4]
      refine m_mod (by omega) ?_
      obtain ⟨who, hwho, hwl⟩ := who_back (n := told'.length) (x := more / 800) hd1 hd2
      walk_at "md"
      rw [hwho]
      have fin : ∀ {who : Nat} {rt : MV → MS → Prop} {bk ct : Env → MS → Prop}, who < told'.length → EvS K G0 (t_l_played_j4 P w K) [some (.mu (B' .s)), some (.im (.lst (cells.map .int))), some (.im (.lst (dStrs pool))), some (.mu (B' .tl)), some (.mu (B' .kp)), some (.mu (B' .hl)), v6, v7, some (.im (.int (i : Nat))), some (.im (.int cell)), some (.im (.int more)), some (.im (.int (who : Nat))), v12, v13, v14] S' ⟨fun E' S' => ∃ B2 M' told' kept' held' v6 v7 v8 v9 v10 v11 v12 v13 v14, (B2 .s = B' .s ∧ B2 .tl = B' .tl ∧ B2 .kp = B' .kp ∧ B2 .hl = B' .hl) ∧ Lay S' B2 (C10 K B2 M' told' kept' held') ∧ J10 pool (3 * M'.recs.length + (142 + (i + 1))) M' told' kept' held' ∧ 1 ≤ M'.recs.length ∧ M'.recs.length ≤ 100 + (i + 1) ∧ held'.length ≤ 3 * M'.recs.length + 3 * (142 + (i + 1)) ∧ E' = [some (.mu (B' .s)), some (.im (.lst (cells.map .int))), some (.im (.lst (dStrs pool))), some (.mu (B' .tl)), some (.mu (B' .kp)), some (.mu (B' .hl)), v6, v7, v8, v9, v10, v11, v12, v13, v14], rt, bk, ct⟩ := fun hwho => by
        refine pl_j4 hA' hJ' hpool hp1 (by omega) (by omega) (by omega) (by omega) hh' fun S5 B5 M5 told5 kept5 held5 v11 v12 v13 v14 g hA5 hJ5 hl5 hl6 hh5 => ?_
        exact ⟨B5, M5, told5, kept5, held5, _, _, _, _, _, _, _, _, _, g, hA5, hJ5.mono (by omega), by omega, by omega, by omega, rfl⟩
      unfold Same10
      rw [← e1, ← e2, ← e3, ← e4]
      refine ⟨fun _ => ?_, fun _ => ?_⟩
      · walk_at "md"
        simp only [List.length_map, List.length_range]
        rw [hd4]
        refine m_mod (by omega) ?_
        obtain ⟨who2, hwho2, hwl2⟩ := who_mod (n := told'.length) (x := more / 800) hd1 hd2
        rw [hwho2]
        walk_at "md"
        exact fin hwl2
      · walk_at "md"
        exact fin hwl
    · rintro E' S' ⟨B', M', told', kept', held', v6, v7, v8, v9, v10, v11, v12, v13, v14, ⟨e1, e2, e3, e4⟩, hA', hJ', h1, h100, hh', rfl⟩
      have hc90 : ((cells.map D.int).map MV.im).length ≤ 90 := by rw [List.length_map, List.length_map]; exact hcl
      rw [← e2, ← e3, ← e4]
      walk_at "md"
      refine m_tupM ?_
      walk_at "md"
      refine ⟨by simp, fun t ht => ?_⟩
      exact up (q _ B' M' told' kept' held' t (by rw [e1, g1, b1]) (hA'.fresh ht) (hJ'.mono (by omega)) mup_same fun x hx => hA'.free ht hx)
end
end Kr
set_option maxHeartbeats 2000000
namespace Kr
open PySem PySem.Spec L2
theorem sorted_eq {ys zs xs ws : List Int} (h1 : ys.Perm xs) (h2 : zs.Perm ws) (h3 : xs.Perm ws) (h4 : ys.Pairwise (· ≤ ·)) (h5 : zs.Pairwise (· ≤ ·)) : ys = zs :=
  List.Perm.eq_of_pairwise (le := (· ≤ ·)) (fun a b _ _ x y => Int.le_antisymm x y) h4 h5 (h1.trans (h3.trans h2.symm))
theorem shaped_ints (xs : List Int) : SeqAt.shaped (toP (.lst (dInts xs))) = true := by
  have e : toP (.lst (dInts xs)) = .list (xs.map .int) := by
    unfold toP dInts
    rw [toPs_map]
    congr 1
  rw [e]; exact PySem.W.ke_shaped_ints _
theorem Lay.off {τ : Type} {S : MS} {A : τ → Addr} {C : τ → Option MO} {p : Addr} {o : MO} (h : Lay S A C) (hp : ∀ t, C t ≠ none → A t ≠ p) : Lay (mup S p o) A C := ⟨fun t u e => by rw [mup_ne (hp t (by rw [e]; simp))]; exact h.get t u e, h.inj⟩
theorem L10.ha {K : PySem.W.Frag} {S : MS} {A : T10 → Addr} {M : ShM} {told : List (List Deed)} {kept : List Nat} {held : Held} {i : Nat} {p : List D × List D} {xs : List D} (h : Lay S A (C10 K A M told kept held)) (hi : held[i]? = some p) : Lay (mup S (A (.ha i)) (.lst (xs.map .im))) A (C10 K A M told kept (held.set i (xs, p.2))) := by
  have hl := (List.getElem?_eq_some_iff.mp hi).1
  refine h.put' (t := .ha i) (by simp [C10, hi]) _ fun x => ?_
  cases x with
  | ha j =>
    by_cases e : i = j
    · subst e; simp [C10, hl]
    · simp [C10, List.getElem?_set_ne e, Ne.symm e]
  | ht j =>
    by_cases e : i = j
    · subst e
      have hip : held[i] = p := by rw [List.getElem?_eq_getElem hl] at hi; exact Option.some.inj hi
      simp [C10, hl, hip]
    · simp [C10, List.getElem?_set_ne e]
  | hl => simp [C10]
  | _ => simp [C10]
theorem DeedC.v {S0 S : MS} {f : Addr} {d : Deed} {m : MV} (h : DeedC S0 S f d m) : DeedV S d m := by
  cases d with
  | under z ps =>
    obtain ⟨t, l, a1, a2, a3, a4, a5, a6, a7⟩ := h
    exact .inr ⟨z, ps, t, l, rfl, a1, a6, a7⟩
  | read n v => exact .inl h
  | write n v => exact .inl h
  | back k => exact .inl h
section
variable {P : Program} {w : World} {K : PySem.W.Frag} {vs : List V} {H : Hp} {Q : VK} {E : XK}
def t_law_j1 (P : Program) (w : World) (K : PySem.W.Frag) : TS :=
  (tSeq (tDrop (tCall (sp_l_changed P w K) [] E0 (tCons (tVar 8) tNil))) (tIfS (tNot (tB (tCall (sp_l_deeds_same P w K) [] E0 (tCons (tMeth (He.ga K "Shelf") "deeds" (sp_Shelf_deeds P w K) [] E0 (tVar 2) (tCons (tVar 7) tNil)) (tCons (tOp (rIxL K) (tVar 6) (tVar 7)) tNil))))) (tRet (tC (.bl false))) tNext))
def t_law_j2 (P : Program) (w : World) (K : PySem.W.Frag) : TS :=
  (tSeq (tFor (iList K (tOp (rIxT K) (tVar 3) (tC (.int 2)))) (gName 5) (tDrop (tBM K "list" rAppend (tOp (rIxT K) (tVar 5) (tC (.int 0))) (tCons (tTup (tCons (tC (.str "zz")) (tCons (tC (.int 9)) tNil))) tNil)))) (tSeq (tAsg (tOp (rIxT K) (tVar 3) (tC (.int 0))) (gName 6)) (tSeq (tFor (iRng1 (tCons (tCB (c_len K) (tCons (tVar 6) tNil)) tNil)) (gName 7) (tSeq (tAsg (tMeth (He.ga K "Shelf") "deeds" (sp_Shelf_deeds P w K) [] E0 (tVar 2) (tCons (tVar 7) tNil)) (gName 8)) (tSeq (tIfS (tNot (tB (tCall (sp_l_deeds_same P w K) [] E0 (tCons (tVar 8) (tCons (tOp (rIxL K) (tVar 6) (tVar 7)) tNil))))) (tRet (tC (.bl false))) tNext) (t_law_j1 P w K)))) (tRet (tC (.bl true))))))
def t_law_j3 (P : Program) (w : World) (K : PySem.W.Frag) : TS :=
  (tSeq (tDrop (tBM K "list" rAppend (tVar 4) (tCons (tUn r_neg (tC (.int 1))) tNil))) (tSeq (tIfS (tOr (tTest (tOp (rNeD K) (tCB (c_sortedI K) (tCons (tMeth (He.ga K "Shelf") "order" (sp_Shelf_order P w K) [] E0 (tVar 2) tNil) tNil)) (tCB (c_sortedI K) (tCons (tOp (rIxT K) (tVar 3) (tC (.int 1))) tNil)))) (tTest (tOp (r_nnil K) (tLc (iList K (tOp (rIxT K) (tVar 3) (tC (.int 2)))) (gName 5) (tTest (tOp (rNeD K) (tOp (rIxT K) (tVar 5) (tC (.int 0))) (tOp (rIxT K) (tVar 5) (tC (.int 1))))) (tVar 5) [5]) (tLst tNil)))) (tRet (tC (.bl false))) tNext) (t_law_j2 P w K)))
def t_law_j4 (P : Program) (w : World) (K : PySem.W.Frag) : TS :=
  (tSeq (tIfS (tTest (tOp (rNeD K) (tCB (c_sortedI K) (tCons (tVar 4) tNil)) (tCB (c_sortedI K) (tCons (tOp (rIxT K) (tVar 3) (tC (.int 1))) tNil)))) (tRet (tC (.bl false))) tNext) (t_law_j3 P w K))
def t_law_j5 (P : Program) (w : World) (K : PySem.W.Frag) : TS :=
  (tSeq (tAsg (tMeth (He.ga K "Shelf") "order" (sp_Shelf_order P w K) [] E0 (tVar 2) tNil) (gName 4)) (tSeq (tIfS (tOr (tNot (tB (tCB (rIsi K) (tCons (tVar 4) (tCons (tC (.ty "list")) tNil))))) (tTest (tOp (r_nnil K) (tLc (iList K (tVar 4)) (gName 9) (tNot (tB (tCall (sp_l_whole P w K) [] E0 (tCons (tVar 9) tNil)))) (tVar 9) [9]) (tLst tNil)))) (tRet (tC (.bl false))) tNext) (t_law_j4 P w K)))
def t_law (P : Program) (w : World) (K : PySem.W.Frag) : TS :=
  (tSeq (tAsg (tCall (sp_l_pool P w K) [] E0 (tCons (tCall (sp_l_cell_at P w K) [] E0 (tCons (tVar 0) (tCons (tC (.int 0)) tNil))) (tCons (tCall (sp_l_cell_at P w K) [] E0 (tCons (tVar 0) (tCons (tC (.int 1)) tNil))) tNil))) (gName 1)) (tSeq (tAsg (tMake (He.ga K "Shelf") (sp_Shelf_init P w K) [] E0 tNil) (gName 2)) (tSeq (tAsg (tCall (sp_l_played P w K) [] E0 (tCons (tVar 2) (tCons (tSl (rSlL K) (tVar 0) (tPart (tC (.int 2))) (tPart (tC (.int 92)))) (tCons (tVar 1) tNil)))) (gName 3)) (tSeq (tIfS (tTest (tOp r_isN (tVar 3) (tC .non))) (tRet (tC (.bl false))) tNext) (t_law_j5 P w K)))))

theorem rd_law (h : sp_law P w K vs H Q E) : t_law P w K { nx := fun _ H' => Q .non H', rt := Q } (start ["_law_script", "_law_pool_here", "_law_shelf", "_law_played_here", "_law_row", "_law_pair", "_law_due", "_law_k", "_law_told", "_law_number"] vs) H := by
  refine rd_L h fun G0 ns hns => ?_
  unfold t_law bodyN
  walk_at "s0"
  walk_at "md"
  refine ⟨ns, 0, rfl, by decide, ?_⟩
  walk_at "md"
  refine ⟨ns, 1, rfl, by decide, ?_⟩
  walk_at "md"
  refine ⟨_, _, rfl, fun pool hpool hp1 hp2 => ?_⟩
  walk_at "md"
  refine m_make cx0 ?_
  walk_at "md"
  intro s dx hs
  refine ⟨s, dx, rfl, mup_same, ⟨rfl, ?_⟩⟩
  rw [mup_mup]
  have hs1 : mup (fun _ => none) s (shO K ⟨[], [], []⟩) s = some (shO K ⟨[], [], []⟩) := mup_same
  generalize mup (fun _ => none) s (shO K ⟨[], [], []⟩) = S1 at hs1 ⊢
  walk_at "md"
  have hlen : (cutD ns (some 2) (some 92)).length ≤ 90 := by
    unfold cutD
    rw [List.length_take, show HT.sIx ns.length 0 (some 2) = min 2 ns.length from HT.sIx_nat ns.length 0 2, show HT.sIx ns.length ns.length (some 92) = min 92 ns.length from HT.sIx_nat ns.length ns.length 92]
    omega
  refine ⟨s, pool, _, rfl, hs1, hlen, hpool, hp1, hp2, fun S2 A M told kept held t e1 hA hJ ht hnt => ?_⟩
  subst e1
  have hrl := hJ.j.b.row
  have hhl := hJ.hl
  have hlt := hJ.j.len
  walk_at "md"
  refine ⟨fun h => absurd h (by simp [isN]), fun _ => ?_⟩
  walk_at "md"
  unfold t_law_j5
  walk_at "md"
  refine m_meth0 ?_
  walk_at "md"
  refine ⟨A .s, rfl, i_shO (hA.get .s _ rfl) (by decide +kernel), ?_⟩
  walk_at "md"
  refine ⟨A .s, M, rfl, hA.get .s _ rfl, fun q hq => ?_⟩
  have hq1 : mup S2 q (.lst ((dNats M.row).map .im)) q = some (.lst ((dNats M.row).map .im)) := mup_same
  have ntq : t ≠ q := by rintro rfl; rw [ht] at hq; cases hq
  have ht1 : mup S2 q (.lst ((dNats M.row).map .im)) t = some (.tup [.mu (A .tl), .mu (A .kp), .mu (A .hl)]) := by rw [mup_ne ntq]; exact ht
  have hA1 := hA.fresh (o := .lst ((dNats M.row).map .im)) hq
  have nq : ∀ x, C10 K A M told kept held x ≠ none → A x ≠ q := fun x hx => hA.free hq hx
  generalize mup S2 q (.lst ((dNats M.row).map .im)) = S3 at hq1 ht1 hA1 ⊢
  walk_at "md"
  refine m_lc (i_listX ?_)
  walk_at "md"
  refine ⟨_, .mu hq1, by show ((dNats M.row).map MV.im).length ≤ 60000; rw [natsM_len]; omega, fun S4 hsub => .mu (hsub _ _ hq1), fun _ => none, ?_, ?_⟩
  · rintro i m S4 hi hm _
    have hm : ((dNats M.row).map MV.im)[i]? = some m := hm
    obtain ⟨x, rfl⟩ : ∃ x : Int, m = .im (.int x) := by
      unfold dNats dInts at hm
      rw [List.getElem?_map, List.getElem?_map, List.getElem?_map] at hm
      cases e : M.row[i]? with
      | none => rw [e] at hm; cases hm
      | some n => rw [e] at hm; exact ⟨(n : Int), (Option.some.inj hm).symm⟩
    walk_at "md"
    refine ⟨_, rfl, trivial, ?_⟩
    unfold wholeD
    walk_at "md"
    exact ⟨rfl, fun h => (nomatch h), fun _ => rfl⟩
  rw [fm_none]
  walk_at "md"
  refine m_lstI ?_
  walk_at "md"
  refine ⟨[], rfl, by simp, ?_⟩
  refine m_nnilX (.im []) ?_
  walk_at "md"
  refine ⟨fun h => absurd h (by simp), fun _ => ?_⟩
  walk_at "md"
  unfold t_law_j4
  walk_at "md"
  refine m_sortI (ns := M.row.map fun (n : Nat) => (n : Int)) (.mu hq1) fun ys hy1 hy2 => ?_
  walk_at "md"
  have hk1 := hA1.get .kp _ rfl
  refine m_sortI (ns := kept.map fun (n : Nat) => (n : Int)) (.mu hk1) fun zs hz1 hz2 => ?_
  have hyz : ys = zs := sorted_eq hy1 hz1 (hJ.j.k.symm.map _) hy2 hz2
  subst hyz
  refine m_neX (.im _) (.im _) (shaped_ints ys) (shaped_ints ys) ?_
  rw [eqvD_refl _ (shaped_ints ys)]
  walk_at "md"
  unfold t_law_j3
  walk_at "md"
  refine m_bm ?_
  walk_at "md"
  refine ⟨tyL_M hq1, ?_⟩
  walk_at "md"
  refine m_app hq1 (by rw [natsM_len]; omega) ?_
  have hA2 := hA1.off (o := .lst ((dNats M.row).map .im ++ [.im (.int (-1))])) nq
  have ht2 : mup S3 q (.lst ((dNats M.row).map .im ++ [.im (.int (-1))])) t = some (.tup [.mu (A .tl), .mu (A .kp), .mu (A .hl)]) := by rw [mup_ne ntq]; exact ht1
  generalize mup S3 q (.lst ((dNats M.row).map .im ++ [.im (.int (-1))])) = S4 at hA2 ht2 ⊢
  walk_at "md"
  refine m_meth0 ?_
  walk_at "md"
  refine ⟨A .s, rfl, i_shO (hA2.get .s _ rfl) (by decide +kernel), ?_⟩
  walk_at "md"
  refine ⟨A .s, M, rfl, hA2.get .s _ rfl, fun q2 hq2 => ?_⟩
  have hq3 : mup S4 q2 (.lst ((dNats M.row).map .im)) q2 = some (.lst ((dNats M.row).map .im)) := mup_same
  have ht3 : mup S4 q2 (.lst ((dNats M.row).map .im)) t = some (.tup [.mu (A .tl), .mu (A .kp), .mu (A .hl)]) := by rw [mup_ne (by rintro rfl; rw [ht2] at hq2; cases hq2)]; exact ht2
  have hA3 := hA2.fresh (o := .lst ((dNats M.row).map .im)) hq2
  generalize mup S4 q2 (.lst ((dNats M.row).map .im)) = S5 at hq3 ht3 hA3 ⊢
  walk_at "md"
  refine m_sortI (ns := M.row.map fun (n : Nat) => (n : Int)) (.mu hq3) fun ys2 hy3 hy4 => ?_
  walk_at "md"
  have hk3 := hA3.get .kp _ rfl
  refine m_sortI (ns := kept.map fun (n : Nat) => (n : Int)) (.mu hk3) fun zs2 hz3 hz4 => ?_
  have hyz : ys2 = zs2 := sorted_eq hy3 hz3 (hJ.j.k.symm.map _) hy4 hz4
  subst hyz
  refine m_neX (.im _) (.im _) (shaped_ints ys2) (shaped_ints ys2) ?_
  rw [eqvD_refl _ (shaped_ints ys2)]
  walk_at "md"
  have hh3 := hA3.get .hl _ rfl
  refine m_lc (i_list ?_)
  walk_at "md"
  refine .inr ⟨A .hl, _, rfl, hh3, by show ((List.range held.length).map fun j => MV.mu (A (.ht j))).length ≤ 60000; rw [List.length_map, List.length_range]; omega, fun S6 hsub => hsub _ _ hh3, fun _ => none, ?_, ?_⟩
  · rintro i m S6 hi hm hsub
    have hm : ((List.range held.length).map fun j => MV.mu (A (.ht j)))[i]? = some m := hm
    have hi' : i < held.length := by have := (List.getElem?_eq_some_iff.mp hm).1; rw [List.length_map, List.length_range] at this; exact this
    rw [List.getElem?_map, List.getElem?_range hi'] at hm
    cases hm
    have hp := List.getElem?_eq_getElem hi'
    generalize held[i] = p at hp
    have hA6 := hA3.sub hsub
    have g1 : S6 (A (.ht i)) = some (.tup [.mu (A (.ha i)), .im (.lst p.2)]) := hA6.get _ _ (by simp [C10, hp])
    have g2 : S6 (A (.ha i)) = some (.lst (p.1.map .im)) := hA6.get _ _ (by simp [C10, hp])
    obtain ⟨h1, h2, h3⟩ := hJ.ho p (List.mem_of_getElem? hp)
    rw [← h1] at g1
    walk_at "md"
    refine m_neX (Sees.ims g2) (.im _) h2 h2 ?_
    rw [eqvD_refl _ h2]
    walk_at "md"
    exact ⟨rfl, fun h => (nomatch h), fun _ => rfl⟩
  rw [fm_none]
  walk_at "md"
  refine m_lstI ?_
  walk_at "md"
  refine ⟨[], rfl, by simp, ?_⟩
  refine m_nnilX (.im []) ?_
  walk_at "md"
  refine ⟨fun h => absurd h (by simp), fun _ => ?_⟩
  walk_at "md"
  unfold t_law_j2
  walk_at "md"
  refine n_for (i_list ?_)
  walk_at "md"
  have hhn : (srcM (A .hl) ((List.range held.length).map fun j => MV.mu (A (.ht j)))).n = held.length := by show ((List.range held.length).map _).length = _; rw [List.length_map, List.length_range]
  refine .inr ⟨A .hl, _, rfl, hh3, fun i E' S' => (∃ v4 v5, E' = [some (.im (.scr ns)), some (.im (.lst (dStrs pool))), some (.mu (A .s)), some (.mu t), v4, v5, none, none, none, none]) ∧ S' t = some (.tup [.mu (A .tl), .mu (A .kp), .mu (A .hl)]) ∧ ∃ held', Lay S' A (C10 K A M told kept held') ∧ held'.length = held.length ∧ ∀ j, i ≤ j → held'[j]? = held[j]?, ⟨⟨_, _, rfl⟩, ht3, held, hA3, rfl, fun j _ => rfl⟩, ?_, ?_, ?_⟩
  · rintro i E' S' _ ⟨_, _, held', hA', hl', _⟩
    have := hA'.get .hl _ rfl
    rw [hl'] at this
    exact this
  · rintro i m E' S' hi hm ⟨⟨v4, v5, rfl⟩, ht', held', hA', hl', hsame⟩
    have hi' : i < held.length := by rw [hhn] at hi; exact hi
    have hm : ((List.range held.length).map fun j => MV.mu (A (.ht j)))[i]? = some m := hm
    rw [List.getElem?_map, List.getElem?_range hi'] at hm
    cases hm
    have hp := List.getElem?_eq_getElem hi'
    generalize held[i] = p at hp
    have hp' : held'[i]? = some p := (hsame i (Nat.le_refl i)).trans hp
    have g1 : S' (A (.ht i)) = some (.tup [.mu (A (.ha i)), .im (.lst p.2)]) := hA'.get _ _ (by simp [C10, hp'])
    have g2 : S' (A (.ha i)) = some (.lst (p.1.map .im)) := hA'.get _ _ (by simp [C10, hp'])
    obtain ⟨h1, h2, h3⟩ := hJ.ho p (List.mem_of_getElem? hp)
    walk_at "md"
    refine m_bm ?_
    walk_at "md"
    refine ⟨tyL_M g2, ?_⟩
    walk_at "md"
    refine m_tupI ?_
    walk_at "md"
    refine ⟨[.str "zz", .int 9], rfl, by simp, ?_⟩
    walk_at "md"
    refine m_app g2 (by rw [List.length_map]; omega) ?_
    rw [show p.1.map MV.im ++ [MV.im (.tup [.str "zz", .int 9])] = (p.1 ++ [D.tup [.str "zz", .int 9]]).map MV.im by rw [List.map_append]; rfl]
    have ntn : t ≠ A (.ha i) := by rintro rfl; rw [ht'] at g2; cases g2
    refine ⟨⟨_, _, rfl⟩, by rw [mup_ne ntn]; exact ht', _, L10.ha hA' hp', by rw [List.length_set]; exact hl', fun j hj => ?_⟩
    rw [List.getElem?_set_ne (by omega)]
    exact hsame j (by omega)
  · rintro E' S6 ⟨⟨v4, v5, rfl⟩, ht6, held6, hA6, hl6, _⟩
    walk_at "md"
    refine n_for (i_rng (n := 0) ?_)
    walk_at "md"
    refine m_lenM (hA6.get .tl _ rfl) ?_
    rw [List.length_map, List.length_range]
    have hrb := hJ.j.b.recs
    refine ⟨_, rfl, by omega, by omega, fun i E' S' => Kr.Sub S6 S' ∧ ∃ v7 v8, E' = [some (.im (.scr ns)), some (.im (.lst (dStrs pool))), some (.mu (A .s)), some (.mu t), v4, v5, some (.mu (A .tl)), v7, v8, none], ⟨Sub.rfl', _, _, rfl⟩, fun _ _ _ _ _ => trivial, ?_, ?_⟩
    · rintro i m E' S' hi rfl ⟨hsub, v7, v8, rfl⟩
      have hil : i < told.length := by have : i < ((told.length : Nat) : Int).toNat := hi; omega
      have hir : i < M.recs.length := by omega
      have hr := List.getElem?_eq_getElem hir
      generalize M.recs[i] = r at hr
      have hget := hJ.j.get hr
      have hdl := (hJ.j.b.get hr).done
      have hdb := hJ.db _ (List.mem_of_getElem? hget)
      have hkn : M.known (.int (i : Nat)) = some i := by
        unfold ShM.known
        dsimp only
        rw [if_pos ⟨by omega, by omega⟩]; rfl
      have hdone : ∀ r ∈ M.recs, r.done.length ≤ 50000 := fun r hr => by have := (hJ.j.b.rc r hr).done; omega
      have hs6 := hA6.get .s _ rfl
      have htl6 := hA6.get .tl _ rfl
      have hrow6 := L10.get hA6 hget
      refine g_name ?_
      refine s_sub hsub ?_
      walk_at "md"
      refine m_meth0 ?_
      walk_at "md"
      refine ⟨A .s, rfl, i_shO hs6 (by decide +kernel), ?_⟩
      walk_at "md"
      refine ⟨A .s, M, _, rfl, hs6, trivial, hdone, ?_⟩
      rw [hkn]
      dsimp only
      intro r' hr'
      rw [hr] at hr'; cases hr'
      refine .inr fun c cs S7 hc hsub7 hcn hcl hdc => ?_
      walk_at "md"
      refine m_ixM (hsub7 _ _ htl6) (L10.at_ hil) ?_
      walk_at "md"
      refine ⟨.mu c, A (.row i), cs, r.done, rfl, ⟨c, rfl, hcn⟩, hsub7 _ _ hrow6, hcl, by omega, fun j d m e1 e2 => (hdc j d m e1 e2).v, hdb, ?_⟩
      walk_at "md"
      unfold t_law_j1
      walk_at "md"
      refine ⟨c, cs, r.done, S6, rfl, hsub7, hc, hcn, hcl, by omega, hdc, hdb, ?_⟩
      walk_at "md"
      refine m_meth0 ?_
      walk_at "md"
      refine ⟨A .s, rfl, i_shO hs6 (by decide +kernel), ?_⟩
      walk_at "md"
      refine ⟨A .s, M, _, rfl, hs6, trivial, hdone, ?_⟩
      rw [hkn]
      dsimp only
      intro r' hr'
      rw [hr] at hr'; cases hr'
      refine .inl fun c2 hc2 => ?_
      have sb2 : Kr.Sub S6 (mup S6 c2 (.lst (r.done.map fun d => .im (deedD d)))) := Sub.rfl'.mup hc2
      walk_at "md"
      refine m_ixM (sb2 _ _ htl6) (L10.at_ hil) ?_
      walk_at "md"
      refine ⟨.mu c2, A (.row i), _, r.done, rfl, ⟨c2, rfl, mup_same⟩, sb2 _ _ hrow6, List.length_map _, by omega, fun j d m e1 e2 => .inl ?_, hdb, ?_⟩
      · rw [List.getElem?_map, e1] at e2
        exact (Option.some.inj e2).symm
      walk_at "md"
      exact ⟨sb2, _, _, rfl⟩
    · rintro E' S' ⟨hsub, v7, v8, rfl⟩
      walk_at "md"
      exact up rfl
end
end Kr
set_option maxHeartbeats 4000000
namespace Kr
open PySem PySem.Spec L2
theorem Txt.kf {K : PySem.W.Frag} {mg : Str → Option Value} (T : Txt K mg) : KF K := ⟨T.c_Shelf, T.c_Record, T.a_Shelf_records, T.a_Shelf_row, T.a_Shelf_rows, T.a_Record_start, T.a_Record_stamp, T.a_Record_mood, T.a_Record_done, T.a_Record_puts, T.a_Record_seen, T.a_Record_heads⟩
end Kr
namespace Kr
open PySem PySem.Spec L2
theorem Txt.kx {K : PySem.W.Frag} {mg : Str → Option Value} (T : Txt K mg) : ExK K := ⟨T.e_DealError_DealError, T.e_NoDealing_DealError, T.e_Over_DealError, T.e_NoName_DealError, T.e_NoValue_DealError, T.e_NoMark_DealError, T.e_Taken_DealError, T.e_Late_DealError, T.e_Crossed_DealError⟩
end Kr
namespace Kr
open PySem PySem.Spec L2
section
open PyProof.Rows
theorem ok_is_head {P : Program} {w : World} {K : PySem.W.Frag} {mg : Str → Option Value} {base : Heap} (T : Txt K mg) : OkD P w K mg base CX0 1 ("is_head", none) ["thing"] (sp_is_head P w K) := by
  obtain ⟨fd, F⟩ := T.f_is_head
  obtain ⟨_, n_MOST⟩ := T.n_MOST
  obtain ⟨_, n_SIGNS⟩ := T.n_SIGNS
  refine ⟨fd, F.ok sc_is_head (fun vs H Q E h => len_is_head h) (fun cdv A outer s H vs Q E hr h => ?_), F.bindsN fun _ _ _ _ _ _ us hl => match us, hl with | [_], _ => rfl, F.kp⟩
  refine ⟨t_is_head P w K, ?_, rd_is_head h⟩
  exact PSs.nox (pss_cons (ps_if (PW.pt (pw_or (pt_not (pt_val (pe_callB call_isi (by rfl) T.b_isinstance (by decide +kernel) (pa_cons (pv 0) (pa_cons (pe_bltn (by rfl) T.b_str (by decide +kernel) rfl) pa_nil))))) (pw_or1 (pt_cmpR o_gt (pe_callB k_lenS (by rfl) T.b_len PySem.boot_len (pa_cons (pv 0) pa_nil)) (pe_glob (by rfl) n_MOST ⟨_, rfl⟩) (nomark _))))) (pss_one (ps_ret pe_bl)) pss_nil)
  (pss_cons (ps_for PassesOwn.never rfl (pi_str (pv 0)) (pg_name (i := 1) sc_is_head.nd rfl (Or.inl rfl)) (pss_one (ps_if (pt_cmpR o_niC (pv 1) (pe_glob (by rfl) n_SIGNS ⟨_, rfl⟩) (by rfl)) (pss_one (ps_ret pe_bl)) pss_nil)))
  (pss_one (ps_ret pe_bl))))

theorem ok_is_name {P : Program} {w : World} {K : PySem.W.Frag} {mg : Str → Option Value} {base : Heap} (T : Txt K mg) : OkD P w K mg base CX0 2 ("is_name", none) ["thing"] (sp_is_name P w K) := by
  obtain ⟨fd, F⟩ := T.f_is_name
  obtain ⟨fd_is_head, G_is_head, b_is_head, kp_is_head⟩ := ok_is_head (P := P) (w := w) (base := base) T
  refine ⟨fd, F.ok sc_is_name (fun vs H Q E h => len_is_name h) (fun cdv A outer s H vs Q E hr h => ?_), F.bindsN fun _ _ _ _ _ _ us hl => match us, hl with | [_], _ => rfl, F.kp⟩
  refine ⟨t_is_name P w K, ?_, rd_is_name h⟩
  exact PSs.nox (pss_one (ps_ret (pe_and (pe_call G_is_head hr (by rfl) T.g_is_head kp_is_head b_is_head .nil pass0 (pa_cons (pv 0) pa_nil)) (pe_one (pe_cmpR op_ne (pv 0) pe_str (nomark _))))))

theorem ok_is_whole {P : Program} {w : World} {K : PySem.W.Frag} {mg : Str → Option Value} {base : Heap} (T : Txt K mg) : OkD P w K mg base CX0 1 ("is_whole", none) ["thing"] (sp_is_whole P w K) := by
  obtain ⟨fd, F⟩ := T.f_is_whole
  refine ⟨fd, F.ok sc_is_whole (fun vs H Q E h => len_is_whole h) (fun cdv A outer s H vs Q E hr h => ?_), F.bindsN fun _ _ _ _ _ _ us hl => match us, hl with | [_], _ => rfl, F.kp⟩
  refine ⟨t_is_whole P w K, ?_, rd_is_whole h⟩
  exact PSs.nox (pss_one (ps_ret (pe_and (pe_callB call_isi (by rfl) T.b_isinstance (by decide +kernel) (pa_cons (pv 0) (pa_cons (pe_bltn (by rfl) T.b_int (by decide +kernel) rfl) pa_nil))) (pe_one (pe_not (pe_callB call_isi (by rfl) T.b_isinstance (by decide +kernel) (pa_cons (pv 0) (pa_cons (pe_bltn (by rfl) T.b_bool (by decide +kernel) rfl) pa_nil))))))))

theorem ok_is_value {P : Program} {w : World} {K : PySem.W.Frag} {mg : Str → Option Value} {base : Heap} (T : Txt K mg) : OkD P w K mg base CX0 2 ("is_value", none) ["thing"] (sp_is_value P w K) := by
  obtain ⟨fd, F⟩ := T.f_is_value
  obtain ⟨fd_is_whole, G_is_whole, b_is_whole, kp_is_whole⟩ := ok_is_whole (P := P) (w := w) (base := base) T
  refine ⟨fd, F.ok sc_is_value (fun vs H Q E h => len_is_value h) (fun cdv A outer s H vs Q E hr h => ?_), F.bindsN fun _ _ _ _ _ _ us hl => match us, hl with | [_], _ => rfl, F.kp⟩
  refine ⟨t_is_value P w K, ?_, rd_is_value h⟩
  exact PSs.nox (pss_cons (ps_if (pt_cmpR o_isN (pv 0) pe_non (nomark _)) (pss_one (ps_ret pe_bl)) pss_nil)
  (pss_one (ps_ret (pe_and (pe_call G_is_whole hr (by rfl) T.g_is_whole kp_is_whole b_is_whole .nil pass0 (pa_cons (pv 0) pa_nil)) (pe_one (pe_chain o_le o_le (pe_un o_neg (pe_op o_pow pe_int pe_int)) (pv 0) (pe_op o_pow pe_int pe_int)))))))

theorem ok_is_under {P : Program} {w : World} {K : PySem.W.Frag} {mg : Str → Option Value} {base : Heap} (T : Txt K mg) : OkD P w K mg base CX0 1 ("is_under", none) ["name", "head"] (sp_is_under P w K) := by
  obtain ⟨fd, F⟩ := T.f_is_under
  refine ⟨fd, F.ok sc_is_under (fun vs H Q E h => len_is_under h) (fun cdv A outer s H vs Q E hr h => ?_), F.bindsN fun _ _ _ _ _ _ us hl => match us, hl with | [_, _], _ => rfl, F.kp⟩
  refine ⟨t_is_under P w K, ?_, rd_is_under h⟩
  exact PSs.nox (pss_one (ps_ret (pe_cmpR op_eq (pe_slice sl_str (pv 0) po_none (po_some (pe_callB k_lenS (by rfl) T.b_len PySem.boot_len (pa_cons (pv 1) pa_nil)))) (pv 1) (nomark _))))

theorem ok_place_in {P : Program} {w : World} {K : PySem.W.Frag} {mg : Str → Option Value} {base : Heap} (T : Txt K mg) : OkD P w K mg base CX0 1 ("place_in", none) ["row", "ahead", "behind"] (sp_place_in P w K) := by
  obtain ⟨fd, F⟩ := T.f_place_in
  refine ⟨fd, F.ok sc_place_in (fun vs H Q E h => len_place_in h) (fun cdv A outer s H vs Q E hr h => ?_), F.bindsN fun _ _ _ _ _ _ us hl => match us, hl with | [_, _, _], _ => rfl, F.kp⟩
  refine ⟨t_place_in P w K, ?_, rd_place_in h⟩
  exact PSs.nox (pss_cons (ps_set (i := 3) sc_place_in.nd rfl (Or.inl rfl) (pe_callB k_len (by rfl) T.b_len PySem.boot_len (pa_cons (pv 0) pa_nil)))
  (pss_cons (ps_for PassesOwn.never rfl (pi_enum (by rfl) T.b_enumerate (pa_cons (pv 0) pa_nil)) (pg_tup rfl (pgs_cons (pg_name (i := 4) sc_place_in.nd rfl (Or.inl rfl)) (pgs_cons (pg_name (i := 5) sc_place_in.nd rfl (Or.inl rfl)) pgs_nil))) (pss_one (ps_if (pt_cmpR op_in_seq (pv 5) (pv 2) (by rfl)) (pss_one (ps_set (i := 3) sc_place_in.nd rfl (Or.inl rfl) (pe_callB (k_min2 rfl) (by rfl) T.b_min (by decide +kernel) (pa_cons (pv 3) (pa_cons (pv 4) pa_nil))))) pss_nil)))
  (pss_cons (ps_for PassesOwn.never rfl (pi_list (pv 1)) (pg_name (i := 5) sc_place_in.nd rfl (Or.inl rfl)) (pss_one (ps_if (pt_cmpR op_notIn_seq (pv 5) (pe_slice sl_list (pv 0) po_none (po_some (pv 3))) (by rfl)) (pss_one (ps_ret pe_non)) pss_nil)))
  (pss_one (ps_ret (pv 3))))))

theorem ok_Record_init {P : Program} {w : World} {K : PySem.W.Frag} {mg : Str → Option Value} {base : Heap} (T : Txt K mg) : OkD P w K mg base CX0 1 ("Record", some "__init__") ["self", "start"] (sp_Record_init P w K) := by
  obtain ⟨fd, F⟩ := T.f_Record_init
  refine ⟨fd, F.ok sc_Record_init (fun vs H Q E h => len_Record_init h) (fun cdv A outer s H vs Q E hr h => ?_), F.bindsN fun _ _ _ _ _ _ us hl => match us, hl with | [_, _], _ => rfl, F.kp⟩
  refine ⟨t_Record_init P w K, ?_, rd_Record_init T.kf h⟩
  exact PSs.nox (pss_cons (ps_fld (pv 0) (pv 1) rfl)
  (pss_cons (ps_fld (pv 0) pe_int rfl)
  (pss_cons (ps_fld (pv 0) pe_str rfl)
  (pss_cons (ps_fld (pv 0) (pe_lst pa_nil) rfl)
  (pss_cons (ps_fld (pv 0) (pe_lst pa_nil) rfl)
  (pss_cons (ps_fld (pv 0) pe_dnewK rfl)
  (pss_one (ps_fld (pv 0) pe_dnewK rfl))))))))

theorem ok_Record_written {P : Program} {w : World} {K : PySem.W.Frag} {mg : Str → Option Value} {base : Heap} (T : Txt K mg) : OkD P w K mg base CX0 1 ("Record", some "written") ["self"] (sp_Record_written P w K) := by
  obtain ⟨fd, F⟩ := T.f_Record_written
  refine ⟨fd, F.ok sc_Record_written (fun vs H Q E h => len_Record_written h) (fun cdv A outer s H vs Q E hr h => ?_), F.bindsN fun _ _ _ _ _ _ us hl => match us, hl with | [_], _ => rfl, F.kp⟩
  have hu := hu_of hr
  refine ⟨t_Record_written P w K, ?_, rd_Record_written T.kf h⟩
  exact PSs.nox (pss_cons (ps_set (i := 1) sc_Record_written.nd rfl (Or.inl rfl) pe_dnewK)
  (pss_cons (ps_for PassesOwn.never rfl (pi_list (pe_fld (pv 0) rfl)) (pg_name (i := 2) sc_Record_written.nd rfl (Or.inl rfl)) (pss_one (ps_dput hu (pv 1) (pe_ix ix_tup (pv 2) pe_int (fun _ _ => rfl)) (pe_ix ix_tup (pv 2) pe_int (fun _ _ => rfl)) rfl)))
  (pss_one (ps_ret (pv 1)))))

theorem ok_Record_looked {P : Program} {w : World} {K : PySem.W.Frag} {mg : Str → Option Value} {base : Heap} (T : Txt K mg) : OkD P w K mg base CX0 2 ("Record", some "looked") ["self", "name"] (sp_Record_looked P w K) := by
  obtain ⟨fd, F⟩ := T.f_Record_looked
  obtain ⟨fd_is_under, G_is_under, b_is_under, kp_is_under⟩ := ok_is_under (P := P) (w := w) (base := base) T
  refine ⟨fd, F.ok sc_Record_looked (fun vs H Q E h => len_Record_looked h) (fun cdv A outer s H vs Q E hr h => ?_), F.bindsN fun _ _ _ _ _ _ us hl => match us, hl with | [_, _], _ => rfl, F.kp⟩
  have hu := hu_of hr
  refine ⟨t_Record_looked P w K, ?_, rd_Record_looked T.kf h⟩
  exact PSs.nox (pss_cons (ps_if (pt_cmp (pc_din hu (pv 1) (pe_fld (pv 0) rfl))) (pss_one (ps_ret pe_bl)) pss_nil)
  (pss_cons (ps_lock (ps_for PassesOwn.never rfl (pi_keys (pe_fld (pv 0) rfl)) (pg_name (i := 2) sc_Record_looked.nd rfl (Or.inl rfl)) (pss_one (ps_if (pt_val (pe_call G_is_under hr (by rfl) T.g_is_under kp_is_under b_is_under .nil pass0 (pa_cons (pv 1) (pa_cons (pv 2) pa_nil)))) (pss_one (ps_ret pe_bl)) pss_nil))))
  (pss_one (ps_ret pe_bl))))

theorem ok_newest {P : Program} {w : World} {K : PySem.W.Frag} {mg : Str → Option Value} {base : Heap} (T : Txt K mg) : OkD P w K mg base CX0 1 ("newest", none) ["rows", "moment"] (sp_newest P w K) := by
  obtain ⟨fd, F⟩ := T.f_newest
  refine ⟨fd, F.ok sc_newest (fun vs H Q E h => len_newest h) (fun cdv A outer s H vs Q E hr h => ?_), F.bindsN fun _ _ _ _ _ _ us hl => match us, hl with | [_, _], _ => rfl, F.kp⟩
  refine ⟨t_newest P w K, ?_, rd_newest h⟩
  exact PSs.nox (pss_cons (ps_set (i := 2) sc_newest.nd rfl (Or.inl rfl) pe_non)
  (pss_cons (ps_for PassesOwn.never rfl (pi_list (pv 0)) (pg_name (i := 3) sc_newest.nd rfl (Or.inl rfl)) (pss_one (ps_if (pt_cmpR o_le (pe_ix ix_tup (pv 3) pe_int (fun _ _ => rfl)) (pv 1) (nomark _)) (pss_one (ps_set (i := 2) sc_newest.nd rfl (Or.inl rfl) (pe_ix ix_tup (pv 3) pe_int (fun _ _ => rfl)))) pss_nil)))
  (pss_one (ps_ret (pv 2)))))

theorem ok_Shelf_init {P : Program} {w : World} {K : PySem.W.Frag} {mg : Str → Option Value} {base : Heap} (T : Txt K mg) : OkD P w K mg base CX0 1 ("Shelf", some "__init__") ["self"] (sp_Shelf_init P w K) := by
  obtain ⟨fd, F⟩ := T.f_Shelf_init
  refine ⟨fd, F.ok sc_Shelf_init (fun vs H Q E h => len_Shelf_init h) (fun cdv A outer s H vs Q E hr h => ?_), F.bindsN fun _ _ _ _ _ _ us hl => match us, hl with | [_], _ => rfl, F.kp⟩
  refine ⟨t_Shelf_init P w K, ?_, rd_Shelf_init T.kf h⟩
  exact PSs.nox (pss_cons (ps_fld (pv 0) (pe_lst pa_nil) rfl)
  (pss_cons (ps_fld (pv 0) (pe_lst pa_nil) rfl)
  (pss_one (ps_fld (pv 0) pe_dnewK rfl))))

theorem ok_Shelf_known {P : Program} {w : World} {K : PySem.W.Frag} {mg : Str → Option Value} {base : Heap} (T : Txt K mg) : OkD P w K mg base (L2.CX P w) 2 ("Shelf", some "known") ["self", "number"] (sp_Shelf_known P w K) := by
  obtain ⟨fd, F⟩ := T.f_Shelf_known
  obtain ⟨fd_is_whole, G_is_whole, b_is_whole, kp_is_whole⟩ := ok_is_whole (P := P) (w := w) (base := base) T
  refine ⟨fd, F.ok sc_Shelf_known (fun vs H Q E h => len_Shelf_known h) (fun cdv A outer s H vs Q E hr h => ?_), F.bindsN fun _ _ _ _ _ _ us hl => match us, hl with | [_, _], _ => rfl, F.kp⟩
  refine ⟨t_Shelf_known P w K E, ?_, rd_Shelf_known T.kf h⟩
  exact (pss_cons (ps_if (PW.pt (pw_or (pt_not (pt_val (pe_call G_is_whole hr (by rfl) T.g_is_whole kp_is_whole b_is_whole .nil pass0 (pa_cons (pv 1) pa_nil)))) (pw_or1 (pt_not (pt_chain o_le o_lt pe_int (pv 1) (pe_callB k_len (by rfl) T.b_len PySem.boot_len (pa_cons (pe_fld (pv 0) rfl) pa_nil))))))) (pss_one (ps_raise rfl (takes_of rfl rfl rfl rfl) (pmk_own PySem.F.excBase_ValueError (T.x_NoDealing).1 T.g_NoDealing (T.x_NoDealing).2.1 (raises_own (T.x_NoDealing).2.2.1 (T.x_NoDealing).2.2.2) (by exact rfl)))) pss_nil)
  (pss_one (ps_ret (pe_ix ix_list (pe_fld (pv 0) rfl) (pv 1) (fun _ _ => rfl)))))

theorem ok_Shelf_going {P : Program} {w : World} {K : PySem.W.Frag} {mg : Str → Option Value} {base : Heap} (T : Txt K mg) : OkD P w K mg base (L2.CX P w) 3 ("Shelf", some "going") ["self", "number"] (sp_Shelf_going P w K) := by
  obtain ⟨fd, F⟩ := T.f_Shelf_going
  obtain ⟨fd_Shelf_known, G_Shelf_known, b_Shelf_known, kp_Shelf_known⟩ := ok_Shelf_known (P := P) (w := w) (base := base) T
  refine ⟨fd, F.ok sc_Shelf_going (fun vs H Q E h => len_Shelf_going h) (fun cdv A outer s H vs Q E hr h => ?_), F.bindsN fun _ _ _ _ _ _ us hl => match us, hl with | [_, _], _ => rfl, F.kp⟩
  refine ⟨t_Shelf_going P w K E, ?_, rd_Shelf_going T.kf h⟩
  exact (pss_cons (ps_set (i := 2) sc_Shelf_going.nd rfl (Or.inl rfl) (pe_meth (pv 0) T.c_Shelf T.m_Shelf_known G_Shelf_known hr b_Shelf_known .nil (passes_call (takes_of rfl rfl rfl rfl) (fun _ _ _ _ h => h)) (pa_cons (pv 1) pa_nil)))
  (pss_cons (ps_if (pt_cmpR op_ne (pe_fld (pv 2) rfl) pe_str (nomark _)) (pss_one (ps_raise rfl (takes_of rfl rfl rfl rfl) (pmk_own PySem.F.excBase_ValueError (T.x_Over).1 T.g_Over (T.x_Over).2.1 (raises_own (T.x_Over).2.2.1 (T.x_Over).2.2.2) (by exact rfl)))) pss_nil)
  (pss_one (ps_ret (pv 2)))))

theorem ok_Shelf_begin {P : Program} {w : World} {K : PySem.W.Frag} {mg : Str → Option Value} {base : Heap} (T : Txt K mg) : OkD P w K mg base CX0 3 ("Shelf", some "begin") ["self"] (sp_Shelf_begin P w K) := by
  obtain ⟨fd, F⟩ := T.f_Shelf_begin
  obtain ⟨fd_Record_init, G_Record_init, b_Record_init, kp_Record_init⟩ := ok_Record_init (P := P) (w := w) (base := base) T
  refine ⟨fd, F.ok sc_Shelf_begin (fun vs H Q E h => len_Shelf_begin h) (fun cdv A outer s H vs Q E hr h => ?_), F.bindsN fun _ _ _ _ _ _ us hl => match us, hl with | [_], _ => rfl, F.kp⟩
  refine ⟨t_Shelf_begin P w K, ?_, rd_Shelf_begin T.kf h⟩
  exact PSs.nox (pss_cons (ps_expr (pe_bm PySem.F.plainAttrs_list PySem.F.slot_list_append PySem.F.type_list_append mt_append (pe_fld (pv 0) rfl) (pa_cons (pe_make T.mk_Record G_Record_init hr (by rfl) T.g_Record b_Record_init .nil pass0 (pa_cons (pe_callB k_len (by rfl) T.b_len PySem.boot_len (pa_cons (pe_fld (pv 0) rfl) pa_nil)) pa_nil)) pa_nil)))
  (pss_one (ps_ret (pe_op o_sub (pe_callB k_len (by rfl) T.b_len PySem.boot_len (pa_cons (pe_fld (pv 0) rfl) pa_nil)) pe_int))))

theorem ok_Shelf_seen_by {P : Program} {w : World} {K : PySem.W.Frag} {mg : Str → Option Value} {base : Heap} (T : Txt K mg) : OkD P w K mg base CX0 2 ("Shelf", some "seen_by") ["self", "record", "name"] (sp_Shelf_seen_by P w K) := by
  obtain ⟨fd, F⟩ := T.f_Shelf_seen_by
  obtain ⟨fd_Record_written, G_Record_written, b_Record_written, kp_Record_written⟩ := ok_Record_written (P := P) (w := w) (base := base) T
  obtain ⟨fd_newest, G_newest, b_newest, kp_newest⟩ := ok_newest (P := P) (w := w) (base := base) T
  refine ⟨fd, F.ok sc_Shelf_seen_by (fun vs H Q E h => len_Shelf_seen_by h) (fun cdv A outer s H vs Q E hr h => ?_), F.bindsN fun _ _ _ _ _ _ us hl => match us, hl with | [_, _, _], _ => rfl, F.kp⟩
  have hu := hu_of hr
  refine ⟨t_Shelf_seen_by P w K, ?_, rd_Shelf_seen_by T.kf h⟩
  exact PSs.nox (pss_cons (ps_set (i := 3) sc_Shelf_seen_by.nd rfl (Or.inl rfl) (pe_meth0 (pv 1) T.c_Record T.m_Record_written G_Record_written hr b_Record_written .nil pass0 ))
  (pss_cons (ps_if (pt_cmp (pc_din hu (pv 2) (pv 3))) (pss_one (ps_ret (pe_dget hu (pv 3) (pv 2) (fun _ _ => rfl)))) pss_nil)
  (pss_one (ps_ret (pe_call G_newest hr (by rfl) T.g_newest kp_newest b_newest .nil pass0 (pa_cons (pe_dget2 hu (pe_fld (pv 0) rfl) (pv 2) (pe_lst pa_nil) ⟨rfl, rfl, rfl, rfl⟩) (pa_cons (pe_fld (pv 1) rfl) pa_nil)))))))

theorem ok_Shelf_read {P : Program} {w : World} {K : PySem.W.Frag} {mg : Str → Option Value} {base : Heap} (T : Txt K mg) : OkD P w K mg base (L2.CX P w) 4 ("Shelf", some "read") ["self", "number", "name"] (sp_Shelf_read P w K) := by
  obtain ⟨fd, F⟩ := T.f_Shelf_read
  obtain ⟨fd_Shelf_going, G_Shelf_going, b_Shelf_going, kp_Shelf_going⟩ := ok_Shelf_going (P := P) (w := w) (base := base) T
  obtain ⟨fd_is_name, G_is_name, b_is_name, kp_is_name⟩ := ok_is_name (P := P) (w := w) (base := base) T
  obtain ⟨fd_Record_written, G_Record_written, b_Record_written, kp_Record_written⟩ := ok_Record_written (P := P) (w := w) (base := base) T
  obtain ⟨fd_Shelf_seen_by, G_Shelf_seen_by, b_Shelf_seen_by, kp_Shelf_seen_by⟩ := ok_Shelf_seen_by (P := P) (w := w) (base := base) T
  refine ⟨fd, F.ok sc_Shelf_read (fun vs H Q E h => len_Shelf_read h) (fun cdv A outer s H vs Q E hr h => ?_), F.bindsN fun _ _ _ _ _ _ us hl => match us, hl with | [_, _, _], _ => rfl, F.kp⟩
  have hu := hu_of hr
  refine ⟨t_Shelf_read P w K E, ?_, rd_Shelf_read T.kf h⟩
  exact (pss_cons (ps_set (i := 3) sc_Shelf_read.nd rfl (Or.inl rfl) (pe_meth (pv 0) T.c_Shelf T.m_Shelf_going G_Shelf_going hr b_Shelf_going .nil (passes_call (takes_of rfl rfl rfl rfl) (fun _ _ _ _ h => h)) (pa_cons (pv 1) pa_nil)))
  (pss_cons (ps_if (pt_not (pt_val (pe_call G_is_name (hr.mono (by decide)) (by rfl) T.g_is_name kp_is_name b_is_name .nil pass0 (pa_cons (pv 2) pa_nil)))) (pss_one (ps_raise rfl (takes_of rfl rfl rfl rfl) (pmk_own PySem.F.excBase_ValueError (T.x_NoName).1 T.g_NoName (T.x_NoName).2.1 (raises_own (T.x_NoName).2.2.1 (T.x_NoName).2.2.2) (by exact rfl)))) pss_nil)
  (pss_cons (ps_if (pt_cmp (pc_dnotin hu (pv 2) (pe_meth0 (pv 3) T.c_Record T.m_Record_written G_Record_written (hr.mono (by decide)) b_Record_written .nil pass0 ))) (pss_one (ps_dput hu (pe_fld (pv 3) rfl) (pv 2) pe_bl rfl)) pss_nil)
  (pss_cons (ps_set (i := 4) sc_Shelf_read.nd rfl (Or.inl rfl) (pe_meth (pv 0) T.c_Shelf T.m_Shelf_seen_by G_Shelf_seen_by (hr.mono (by decide)) b_Shelf_seen_by .nil pass0 (pa_cons (pv 3) (pa_cons (pv 2) pa_nil))))
  (pss_cons (ps_expr (pe_bm PySem.F.plainAttrs_list PySem.F.slot_list_append PySem.F.type_list_append mt_append (pe_fld (pv 3) rfl) (pa_cons (pe_tup (pa_cons pe_str (pa_cons (pv 2) (pa_cons (pv 4) pa_nil)))) pa_nil)))
  (pss_one (ps_ret (pv 4))))))))

theorem ok_Shelf_under {P : Program} {w : World} {K : PySem.W.Frag} {mg : Str → Option Value} {base : Heap} (T : Txt K mg) : OkD P w K mg base (L2.CX P w) 4 ("Shelf", some "under") ["self", "number", "head"] (sp_Shelf_under P w K) := by
  obtain ⟨fd, F⟩ := T.f_Shelf_under
  obtain ⟨fd_Shelf_going, G_Shelf_going, b_Shelf_going, kp_Shelf_going⟩ := ok_Shelf_going (P := P) (w := w) (base := base) T
  obtain ⟨fd_is_head, G_is_head, b_is_head, kp_is_head⟩ := ok_is_head (P := P) (w := w) (base := base) T
  obtain ⟨fd_Record_written, G_Record_written, b_Record_written, kp_Record_written⟩ := ok_Record_written (P := P) (w := w) (base := base) T
  obtain ⟨fd_Shelf_seen_by, G_Shelf_seen_by, b_Shelf_seen_by, kp_Shelf_seen_by⟩ := ok_Shelf_seen_by (P := P) (w := w) (base := base) T
  obtain ⟨fd_is_under, G_is_under, b_is_under, kp_is_under⟩ := ok_is_under (P := P) (w := w) (base := base) T
  refine ⟨fd, F.ok sc_Shelf_under (fun vs H Q E h => len_Shelf_under h) (fun cdv A outer s H vs Q E hr h => ?_), F.bindsN fun _ _ _ _ _ _ us hl => match us, hl with | [_, _, _], _ => rfl, F.kp⟩
  have hu := hu_of hr
  refine ⟨t_Shelf_under P w K E, ?_, rd_Shelf_under T.kf h⟩
  exact (pss_cons (ps_set (i := 3) sc_Shelf_under.nd rfl (Or.inl rfl) (pe_meth (pv 0) T.c_Shelf T.m_Shelf_going G_Shelf_going hr b_Shelf_going .nil (passes_call (takes_of rfl rfl rfl rfl) (fun _ _ _ _ h => h)) (pa_cons (pv 1) pa_nil)))
  (pss_cons (ps_if (pt_not (pt_val (pe_call G_is_head (hr.mono (by decide)) (by rfl) T.g_is_head kp_is_head b_is_head .nil pass0 (pa_cons (pv 2) pa_nil)))) (pss_one (ps_raise rfl (takes_of rfl rfl rfl rfl) (pmk_own PySem.F.excBase_ValueError (T.x_NoName).1 T.g_NoName (T.x_NoName).2.1 (raises_own (T.x_NoName).2.2.1 (T.x_NoName).2.2.2) (by exact rfl)))) pss_nil)
  (pss_cons (ps_dput hu (pe_fld (pv 3) rfl) (pv 2) pe_bl rfl)
  (pss_cons (ps_set (i := 4) sc_Shelf_under.nd rfl (Or.inl rfl) (pe_lst pa_nil))
  (pss_cons (ps_for (passes_of rfl) rfl (pi_list (pe_sortSet rfl (by rfl) T.b_sorted (by rfl) T.b_set (pe_op op_cat (pe_callTy (k_listD rfl) (by rfl) T.b_list (by decide +kernel) (pa_cons (pe_fld (pv 0) rfl) pa_nil)) (pe_callTy (k_listD rfl) (by rfl) T.b_list (by decide +kernel) (pa_cons (pe_meth0 (pv 3) T.c_Record T.m_Record_written G_Record_written (hr.mono (by decide)) b_Record_written .nil pass0 ) pa_nil))))) (pg_name (i := 5) sc_Shelf_under.nd rfl (Or.inl rfl)) (pss_cons (ps_set (i := 6) sc_Shelf_under.nd rfl (Or.inl rfl) (pe_meth (pv 0) T.c_Shelf T.m_Shelf_seen_by G_Shelf_seen_by (hr.mono (by decide)) b_Shelf_seen_by .nil pass0 (pa_cons (pv 3) (pa_cons (pv 5) pa_nil))))
  (pss_one (ps_if (PW.pt (pw_and (pt_val (pe_call G_is_under (hr.mono (by decide)) (by rfl) T.g_is_under kp_is_under b_is_under .nil pass0 (pa_cons (pv 5) (pa_cons (pv 2) pa_nil)))) (pw_and1 (pt_cmpR o_notN (pv 6) pe_non (nomark _))))) (pss_one (ps_expr (pe_bm PySem.F.plainAttrs_list PySem.F.slot_list_append PySem.F.type_list_append mt_append (pv 4) (pa_cons (pe_tup (pa_cons (pv 5) (pa_cons (pv 6) pa_nil))) pa_nil)))) pss_nil))))
  (pss_cons (ps_expr (pe_bm PySem.F.plainAttrs_list PySem.F.slot_list_append PySem.F.type_list_append mt_append (pe_fld (pv 3) rfl) (pa_cons (pe_tup (pa_cons pe_str (pa_cons (pv 2) (pa_cons (pe_callTy k_list (by rfl) T.b_list (by decide +kernel) (pa_cons (pv 4) pa_nil)) pa_nil)))) pa_nil)))
  (pss_one (ps_ret (pv 4)))))))))

theorem ok_Shelf_write {P : Program} {w : World} {K : PySem.W.Frag} {mg : Str → Option Value} {base : Heap} (T : Txt K mg) : OkD P w K mg base (L2.CX P w) 4 ("Shelf", some "write") ["self", "number", "name", "value"] (sp_Shelf_write P w K) := by
  obtain ⟨fd, F⟩ := T.f_Shelf_write
  obtain ⟨fd_Shelf_going, G_Shelf_going, b_Shelf_going, kp_Shelf_going⟩ := ok_Shelf_going (P := P) (w := w) (base := base) T
  obtain ⟨fd_is_name, G_is_name, b_is_name, kp_is_name⟩ := ok_is_name (P := P) (w := w) (base := base) T
  obtain ⟨fd_is_value, G_is_value, b_is_value, kp_is_value⟩ := ok_is_value (P := P) (w := w) (base := base) T
  obtain ⟨fd_Record_written, G_Record_written, b_Record_written, kp_Record_written⟩ := ok_Record_written (P := P) (w := w) (base := base) T
  refine ⟨fd, F.ok sc_Shelf_write (fun vs H Q E h => len_Shelf_write h) (fun cdv A outer s H vs Q E hr h => ?_), F.bindsN fun _ _ _ _ _ _ us hl => match us, hl with | [_, _, _, _], _ => rfl, F.kp⟩
  have hu := hu_of hr
  refine ⟨t_Shelf_write P w K E, ?_, rd_Shelf_write T.kf h⟩
  exact (pss_cons (ps_set (i := 4) sc_Shelf_write.nd rfl (Or.inl rfl) (pe_meth (pv 0) T.c_Shelf T.m_Shelf_going G_Shelf_going hr b_Shelf_going .nil (passes_call (takes_of rfl rfl rfl rfl) (fun _ _ _ _ h => h)) (pa_cons (pv 1) pa_nil)))
  (pss_cons (ps_if (pt_not (pt_val (pe_call G_is_name (hr.mono (by decide)) (by rfl) T.g_is_name kp_is_name b_is_name .nil pass0 (pa_cons (pv 2) pa_nil)))) (pss_one (ps_raise rfl (takes_of rfl rfl rfl rfl) (pmk_own PySem.F.excBase_ValueError (T.x_NoName).1 T.g_NoName (T.x_NoName).2.1 (raises_own (T.x_NoName).2.2.1 (T.x_NoName).2.2.2) (by exact rfl)))) pss_nil)
  (pss_cons (ps_if (pt_not (pt_val (pe_call G_is_value (hr.mono (by decide)) (by rfl) T.g_is_value kp_is_value b_is_value .nil pass0 (pa_cons (pv 3) pa_nil)))) (pss_one (ps_raise rfl (takes_of rfl rfl rfl rfl) (pmk_own PySem.F.excBase_ValueError (T.x_NoValue).1 T.g_NoValue (T.x_NoValue).2.1 (raises_own (T.x_NoValue).2.2.1 (T.x_NoValue).2.2.2) (by exact rfl)))) pss_nil)
  (pss_cons (ps_for (passes_of rfl) rfl (pi_enum (by rfl) T.b_enumerate (pa_cons (pe_fld (pv 0) rfl) pa_nil)) (pg_tup rfl (pgs_cons (pg_name (i := 5) sc_Shelf_write.nd rfl (Or.inl rfl)) (pgs_cons (pg_name (i := 6) sc_Shelf_write.nd rfl (Or.inl rfl)) pgs_nil))) (pss_one (ps_if (PW.pt (pw_and (pt_cmpR op_ne (pv 5) (pv 1) (nomark _)) (pw_and (pt_cmpR op_eq (pe_fld (pv 6) rfl) pe_str (nomark _)) (pw_and1 (pt_cmp (pc_din hu (pv 2) (pe_meth0 (pv 6) T.c_Record T.m_Record_written G_Record_written (hr.mono (by decide)) b_Record_written .nil pass0 ))))))) (pss_one (ps_raise rfl (takes_of rfl rfl rfl rfl) (pmk_own PySem.F.excBase_ValueError (T.x_Taken).1 T.g_Taken (T.x_Taken).2.1 (raises_own (T.x_Taken).2.2.1 (T.x_Taken).2.2.2) (by exact rfl)))) pss_nil)))
  (pss_cons (ps_for (passes_of rfl) rfl (pi_list (pe_dget2 hu (pe_fld (pv 0) rfl) (pv 2) (pe_lst pa_nil) ⟨rfl, rfl, rfl, rfl⟩)) (pg_name (i := 7) sc_Shelf_write.nd rfl (Or.inl rfl)) (pss_one (ps_if (pt_cmpR o_gt (pe_ix ix_tup (pv 7) pe_int (fun _ _ => rfl)) (pe_fld (pv 4) rfl) (nomark _)) (pss_one (ps_raise rfl (takes_of rfl rfl rfl rfl) (pmk_own PySem.F.excBase_ValueError (T.x_Late).1 T.g_Late (T.x_Late).2.1 (raises_own (T.x_Late).2.2.1 (T.x_Late).2.2.2) (by exact rfl)))) pss_nil)))
  (pss_cons (ps_expr (pe_bm PySem.F.plainAttrs_list PySem.F.slot_list_append PySem.F.type_list_append mt_append (pe_fld (pv 4) rfl) (pa_cons (pe_tup (pa_cons (pv 2) (pa_cons (pv 3) pa_nil))) pa_nil)))
  (pss_one (ps_expr (pe_bm PySem.F.plainAttrs_list PySem.F.slot_list_append PySem.F.type_list_append mt_append (pe_fld (pv 4) rfl) (pa_cons (pe_tup (pa_cons pe_str (pa_cons (pv 2) (pa_cons (pv 3) pa_nil)))) pa_nil))))))))))

theorem ok_Shelf_made {P : Program} {w : World} {K : PySem.W.Frag} {mg : Str → Option Value} {base : Heap} (T : Txt K mg) : OkD P w K mg base (L2.CX P w) 4 ("Shelf", some "made") ["self", "number"] (sp_Shelf_made P w K) := by
  obtain ⟨fd, F⟩ := T.f_Shelf_made
  obtain ⟨fd_Shelf_going, G_Shelf_going, b_Shelf_going, kp_Shelf_going⟩ := ok_Shelf_going (P := P) (w := w) (base := base) T
  refine ⟨fd, F.ok sc_Shelf_made (fun vs H Q E h => len_Shelf_made h) (fun cdv A outer s H vs Q E hr h => ?_), F.bindsN fun _ _ _ _ _ _ us hl => match us, hl with | [_, _], _ => rfl, F.kp⟩
  refine ⟨t_Shelf_made P w K E, ?_, rd_Shelf_made T.kf h⟩
  exact (pss_one (ps_ret (pe_callB k_len (by rfl) T.b_len PySem.boot_len (pa_cons (pe_fld (pe_meth (pv 0) T.c_Shelf T.m_Shelf_going G_Shelf_going hr b_Shelf_going .nil (passes_call (takes_of rfl rfl rfl rfl) (fun _ _ _ _ h => h)) (pa_cons (pv 1) pa_nil)) rfl) pa_nil))))

theorem ok_Shelf_back {P : Program} {w : World} {K : PySem.W.Frag} {mg : Str → Option Value} {base : Heap} (T : Txt K mg) : OkD P w K mg base (L2.CX P w) 4 ("Shelf", some "back") ["self", "number", "many"] (sp_Shelf_back P w K) := by
  obtain ⟨fd, F⟩ := T.f_Shelf_back
  obtain ⟨fd_Shelf_going, G_Shelf_going, b_Shelf_going, kp_Shelf_going⟩ := ok_Shelf_going (P := P) (w := w) (base := base) T
  obtain ⟨fd_is_whole, G_is_whole, b_is_whole, kp_is_whole⟩ := ok_is_whole (P := P) (w := w) (base := base) T
  refine ⟨fd, F.ok sc_Shelf_back (fun vs H Q E h => len_Shelf_back h) (fun cdv A outer s H vs Q E hr h => ?_), F.bindsN fun _ _ _ _ _ _ us hl => match us, hl with | [_, _, _], _ => rfl, F.kp⟩
  refine ⟨t_Shelf_back P w K E, ?_, rd_Shelf_back T.kf h⟩
  exact (pss_cons (ps_set (i := 3) sc_Shelf_back.nd rfl (Or.inl rfl) (pe_meth (pv 0) T.c_Shelf T.m_Shelf_going G_Shelf_going hr b_Shelf_going .nil (passes_call (takes_of rfl rfl rfl rfl) (fun _ _ _ _ h => h)) (pa_cons (pv 1) pa_nil)))
  (pss_cons (ps_if (PW.pt (pw_or (pt_not (pt_val (pe_call G_is_whole (hr.mono (by decide)) (by rfl) T.g_is_whole kp_is_whole b_is_whole .nil pass0 (pa_cons (pv 2) pa_nil)))) (pw_or1 (pt_not (pt_chain o_le o_le pe_int (pv 2) (pe_callB k_len (by rfl) T.b_len PySem.boot_len (pa_cons (pe_fld (pv 3) rfl) pa_nil))))))) (pss_one (ps_raise rfl (takes_of rfl rfl rfl rfl) (pmk_own PySem.F.excBase_ValueError (T.x_NoMark).1 T.g_NoMark (T.x_NoMark).2.1 (raises_own (T.x_NoMark).2.2.1 (T.x_NoMark).2.2.2) (by exact rfl)))) pss_nil)
  (pss_cons (ps_fld (pv 3) (pe_slice sl_list (pe_fld (pv 3) rfl) po_none (po_some (pv 2))) rfl)
  (pss_one (ps_expr (pe_bm PySem.F.plainAttrs_list PySem.F.slot_list_append PySem.F.type_list_append mt_append (pe_fld (pv 3) rfl) (pa_cons (pe_tup (pa_cons pe_str (pa_cons (pv 2) pa_nil))) pa_nil)))))))

theorem ok_Shelf_ahead_of {P : Program} {w : World} {K : PySem.W.Frag} {mg : Str → Option Value} {base : Heap} (T : Txt K mg) : OkD P w K mg base CX0 3 ("Shelf", some "ahead_of") ["self", "record"] (sp_Shelf_ahead_of P w K) := by
  obtain ⟨fd, F⟩ := T.f_Shelf_ahead_of
  obtain ⟨fd_Record_written, G_Record_written, b_Record_written, kp_Record_written⟩ := ok_Record_written (P := P) (w := w) (base := base) T
  obtain ⟨fd_Record_looked, G_Record_looked, b_Record_looked, kp_Record_looked⟩ := ok_Record_looked (P := P) (w := w) (base := base) T
  refine ⟨fd, F.ok sc_Shelf_ahead_of (fun vs H Q E h => len_Shelf_ahead_of h) (fun cdv A outer s H vs Q E hr h => ?_), F.bindsN fun _ _ _ _ _ _ us hl => match us, hl with | [_, _], _ => rfl, F.kp⟩
  have hu := hu_of hr
  refine ⟨t_Shelf_ahead_of P w K, ?_, rd_Shelf_ahead_of T.kf h⟩
  exact PSs.nox (pss_cons (ps_set (i := 2) sc_Shelf_ahead_of.nd rfl (Or.inl rfl) (pe_lst pa_nil))
  (pss_cons (ps_set (i := 3) sc_Shelf_ahead_of.nd rfl (Or.inl rfl) (pe_meth0 (pv 1) T.c_Record T.m_Record_written G_Record_written (hr.mono (by decide)) b_Record_written .nil pass0 ))
  (pss_cons (ps_for PassesOwn.never rfl (pi_list (pe_fld (pv 0) rfl)) (pg_name (i := 4) sc_Shelf_ahead_of.nd rfl (Or.inl rfl)) (pss_cons (ps_set (i := 5) sc_Shelf_ahead_of.nd rfl (Or.inl rfl) (pe_ix ix_list (pe_fld (pv 0) rfl) (pv 4) (fun _ _ => rfl)))
  (pss_cons (ps_for PassesOwn.never rfl (pi_keys (pe_freeze (pe_meth0 (pv 5) T.c_Record T.m_Record_written G_Record_written (hr.mono (by decide)) b_Record_written .nil pass0 ))) (pg_name (i := 6) sc_Shelf_ahead_of.nd rfl (Or.inl rfl)) (pss_one (ps_if (PW.pt (pw_or (pt_cmp (pc_din hu (pv 6) (pv 3))) (pw_or1 (PW.pt (pw_and (pt_val (pe_meth (pv 1) T.c_Record T.m_Record_looked G_Record_looked hr b_Record_looked .nil pass0 (pa_cons (pv 6) pa_nil))) (pw_and1 (pt_cmpR o_le (pe_fld (pv 5) rfl) (pe_fld (pv 1) rfl) (nomark _)))))))) (pss_one (ps_expr (pe_bm PySem.F.plainAttrs_list PySem.F.slot_list_append PySem.F.type_list_append mt_append (pv 2) (pa_cons (pv 4) pa_nil)))) pss_nil)))
  (pss_one (ps_lock (ps_for PassesOwn.never rfl (pi_keys (pv 3)) (pg_name (i := 6) sc_Shelf_ahead_of.nd rfl (Or.inl rfl)) (pss_one (ps_if (pt_val (pe_meth (pv 5) T.c_Record T.m_Record_looked G_Record_looked hr b_Record_looked .nil pass0 (pa_cons (pv 6) pa_nil))) (pss_one (ps_expr (pe_bm PySem.F.plainAttrs_list PySem.F.slot_list_append PySem.F.type_list_append mt_append (pv 2) (pa_cons (pv 4) pa_nil)))) pss_nil))))))))
  (pss_one (ps_ret (pv 2))))))

theorem ok_Shelf_behind {P : Program} {w : World} {K : PySem.W.Frag} {mg : Str → Option Value} {base : Heap} (T : Txt K mg) : OkD P w K mg base CX0 3 ("Shelf", some "behind") ["self", "record"] (sp_Shelf_behind P w K) := by
  obtain ⟨fd, F⟩ := T.f_Shelf_behind
  obtain ⟨fd_Record_written, G_Record_written, b_Record_written, kp_Record_written⟩ := ok_Record_written (P := P) (w := w) (base := base) T
  obtain ⟨fd_Record_looked, G_Record_looked, b_Record_looked, kp_Record_looked⟩ := ok_Record_looked (P := P) (w := w) (base := base) T
  refine ⟨fd, F.ok sc_Shelf_behind (fun vs H Q E h => len_Shelf_behind h) (fun cdv A outer s H vs Q E hr h => ?_), F.bindsN fun _ _ _ _ _ _ us hl => match us, hl with | [_, _], _ => rfl, F.kp⟩
  refine ⟨t_Shelf_behind P w K, ?_, rd_Shelf_behind T.kf h⟩
  exact PSs.nox (pss_cons (ps_set (i := 2) sc_Shelf_behind.nd rfl (Or.inl rfl) (pe_lst pa_nil))
  (pss_cons (ps_for PassesOwn.never rfl (pi_list (pe_fld (pv 0) rfl)) (pg_name (i := 3) sc_Shelf_behind.nd rfl (Or.inl rfl)) (pss_cons (ps_set (i := 4) sc_Shelf_behind.nd rfl (Or.inl rfl) (pe_ix ix_list (pe_fld (pv 0) rfl) (pv 3) (fun _ _ => rfl)))
  (pss_one (ps_for PassesOwn.never rfl (pi_keys (pe_freeze (pe_meth0 (pv 4) T.c_Record T.m_Record_written G_Record_written (hr.mono (by decide)) b_Record_written .nil pass0 ))) (pg_name (i := 5) sc_Shelf_behind.nd rfl (Or.inl rfl)) (pss_one (ps_if (PW.pt (pw_and (pt_val (pe_meth (pv 1) T.c_Record T.m_Record_looked G_Record_looked hr b_Record_looked .nil pass0 (pa_cons (pv 5) pa_nil))) (pw_and1 (pt_cmpR o_gt (pe_fld (pv 4) rfl) (pe_fld (pv 1) rfl) (nomark _))))) (pss_one (ps_expr (pe_bm PySem.F.plainAttrs_list PySem.F.slot_list_append PySem.F.type_list_append mt_append (pv 2) (pa_cons (pv 3) pa_nil)))) pss_nil))))))
  (pss_one (ps_ret (pv 2)))))

theorem ok_Shelf_keep {P : Program} {w : World} {K : PySem.W.Frag} {mg : Str → Option Value} {base : Heap} (T : Txt K mg) : OkD P w K mg base (L2.CX P w) 4 ("Shelf", some "keep") ["self", "number"] (sp_Shelf_keep P w K) := by
  obtain ⟨fd, F⟩ := T.f_Shelf_keep
  obtain ⟨fd_Shelf_going, G_Shelf_going, b_Shelf_going, kp_Shelf_going⟩ := ok_Shelf_going (P := P) (w := w) (base := base) T
  obtain ⟨fd_place_in, G_place_in, b_place_in, kp_place_in⟩ := ok_place_in (P := P) (w := w) (base := base) T
  obtain ⟨fd_Shelf_behind, G_Shelf_behind, b_Shelf_behind, kp_Shelf_behind⟩ := ok_Shelf_behind (P := P) (w := w) (base := base) T
  obtain ⟨fd_Shelf_ahead_of, G_Shelf_ahead_of, b_Shelf_ahead_of, kp_Shelf_ahead_of⟩ := ok_Shelf_ahead_of (P := P) (w := w) (base := base) T
  obtain ⟨fd_Record_written, G_Record_written, b_Record_written, kp_Record_written⟩ := ok_Record_written (P := P) (w := w) (base := base) T
  refine ⟨fd, F.ok sc_Shelf_keep (fun vs H Q E h => len_Shelf_keep h) (fun cdv A outer s H vs Q E hr h => ?_), F.bindsN fun _ _ _ _ _ _ us hl => match us, hl with | [_, _], _ => rfl, F.kp⟩
  have hu := hu_of hr
  refine ⟨t_Shelf_keep P w K E, ?_, rd_Shelf_keep T.kf h⟩
  exact (pss_cons (ps_set (i := 2) sc_Shelf_keep.nd rfl (Or.inl rfl) (pe_meth (pv 0) T.c_Shelf T.m_Shelf_going G_Shelf_going hr b_Shelf_going .nil (passes_call (takes_of rfl rfl rfl rfl) (fun _ _ _ _ h => h)) (pa_cons (pv 1) pa_nil)))
  (pss_cons (ps_set (i := 3) sc_Shelf_keep.nd rfl (Or.inl rfl) (pe_call G_place_in (hr.mono (by decide)) (by rfl) T.g_place_in kp_place_in b_place_in .nil pass0 (pa_cons (pe_fld (pv 0) rfl) (pa_cons (pe_meth (pv 0) T.c_Shelf T.m_Shelf_ahead_of G_Shelf_ahead_of hr b_Shelf_ahead_of .nil pass0 (pa_cons (pv 2) pa_nil)) (pa_cons (pe_meth (pv 0) T.c_Shelf T.m_Shelf_behind G_Shelf_behind hr b_Shelf_behind .nil pass0 (pa_cons (pv 2) pa_nil)) pa_nil)))))
  (pss_cons (ps_if (pt_cmpR o_isN (pv 3) pe_non (nomark _)) (pss_cons (ps_fld (pv 2) pe_str rfl)
  (pss_one (ps_raise rfl (takes_of rfl rfl rfl rfl) (pmk_own PySem.F.excBase_ValueError (T.x_Crossed).1 T.g_Crossed (T.x_Crossed).2.1 (raises_own (T.x_Crossed).2.2.1 (T.x_Crossed).2.2.2) (by exact rfl))))) pss_nil)
  (pss_cons (ps_expr (pe_bm PySem.F.plainAttrs_list PySem.F.slot_list_insert PySem.F.type_list_insert m_insert (pe_fld (pv 0) rfl) (pa_cons (pv 3) (pa_cons (pv 1) pa_nil))))
  (pss_cons (ps_fld (pv 2) pe_str rfl)
  (pss_cons (ps_fld (pv 2) (pe_callB k_len (by rfl) T.b_len PySem.boot_len (pa_cons (pe_fld (pv 0) rfl) pa_nil)) rfl)
  (pss_cons (ps_for (passes_of rfl) rfl (pi_items (pe_freeze (pe_meth0 (pv 2) T.c_Record T.m_Record_written G_Record_written (hr.mono (by decide)) b_Record_written .nil pass0 ))) (pg_tup rfl (pgs_cons (pg_name (i := 4) sc_Shelf_keep.nd rfl (Or.inl rfl)) (pgs_cons (pg_name (i := 5) sc_Shelf_keep.nd rfl (Or.inl rfl)) pgs_nil))) (pss_cons (ps_if (pt_cmp (pc_dnotin hu (pv 4) (pe_fld (pv 0) rfl))) (pss_one (ps_dput hu (pe_fld (pv 0) rfl) (pv 4) (pe_lst pa_nil) rfl)) pss_nil)
  (pss_one (ps_expr (pe_bm PySem.F.plainAttrs_list PySem.F.slot_list_append PySem.F.type_list_append mt_append (pe_dget hu (pe_fld (pv 0) rfl) (pv 4) (fun _ _ => rfl)) (pa_cons (pe_tup (pa_cons (pe_fld (pv 2) rfl) (pa_cons (pv 5) pa_nil))) pa_nil))))))
  (pss_one (ps_ret (pv 3))))))))))

theorem ok_Shelf_drop {P : Program} {w : World} {K : PySem.W.Frag} {mg : Str → Option Value} {base : Heap} (T : Txt K mg) : OkD P w K mg base (L2.CX P w) 4 ("Shelf", some "drop") ["self", "number"] (sp_Shelf_drop P w K) := by
  obtain ⟨fd, F⟩ := T.f_Shelf_drop
  obtain ⟨fd_Shelf_going, G_Shelf_going, b_Shelf_going, kp_Shelf_going⟩ := ok_Shelf_going (P := P) (w := w) (base := base) T
  refine ⟨fd, F.ok sc_Shelf_drop (fun vs H Q E h => len_Shelf_drop h) (fun cdv A outer s H vs Q E hr h => ?_), F.bindsN fun _ _ _ _ _ _ us hl => match us, hl with | [_, _], _ => rfl, F.kp⟩
  refine ⟨t_Shelf_drop P w K E, ?_, rd_Shelf_drop T.kf h⟩
  exact (pss_cons (ps_set (i := 2) sc_Shelf_drop.nd rfl (Or.inl rfl) (pe_meth (pv 0) T.c_Shelf T.m_Shelf_going G_Shelf_going hr b_Shelf_going .nil (passes_call (takes_of rfl rfl rfl rfl) (fun _ _ _ _ h => h)) (pa_cons (pv 1) pa_nil)))
  (pss_one (ps_fld (pv 2) pe_str rfl)))

theorem ok_Shelf_order {P : Program} {w : World} {K : PySem.W.Frag} {mg : Str → Option Value} {base : Heap} (T : Txt K mg) : OkD P w K mg base CX0 1 ("Shelf", some "order") ["self"] (sp_Shelf_order P w K) := by
  obtain ⟨fd, F⟩ := T.f_Shelf_order
  refine ⟨fd, F.ok sc_Shelf_order (fun vs H Q E h => len_Shelf_order h) (fun cdv A outer s H vs Q E hr h => ?_), F.bindsN fun _ _ _ _ _ _ us hl => match us, hl with | [_], _ => rfl, F.kp⟩
  refine ⟨t_Shelf_order P w K, ?_, rd_Shelf_order T.kf h⟩
  exact PSs.nox (pss_one (ps_ret (pe_callTy k_list (by rfl) T.b_list (by decide +kernel) (pa_cons (pe_fld (pv 0) rfl) pa_nil))))

theorem ok_Shelf_moment {P : Program} {w : World} {K : PySem.W.Frag} {mg : Str → Option Value} {base : Heap} (T : Txt K mg) : OkD P w K mg base CX0 1 ("Shelf", some "moment") ["self"] (sp_Shelf_moment P w K) := by
  obtain ⟨fd, F⟩ := T.f_Shelf_moment
  refine ⟨fd, F.ok sc_Shelf_moment (fun vs H Q E h => len_Shelf_moment h) (fun cdv A outer s H vs Q E hr h => ?_), F.bindsN fun _ _ _ _ _ _ us hl => match us, hl with | [_], _ => rfl, F.kp⟩
  refine ⟨t_Shelf_moment P w K, ?_, rd_Shelf_moment T.kf h⟩
  exact PSs.nox (pss_one (ps_ret (pe_callB k_len (by rfl) T.b_len PySem.boot_len (pa_cons (pe_fld (pv 0) rfl) pa_nil))))

theorem ok_Shelf_deeds {P : Program} {w : World} {K : PySem.W.Frag} {mg : Str → Option Value} {base : Heap} (T : Txt K mg) : OkD P w K mg base (L2.CX P w) 3 ("Shelf", some "deeds") ["self", "number"] (sp_Shelf_deeds P w K) := by
  obtain ⟨fd, F⟩ := T.f_Shelf_deeds
  obtain ⟨fd_Shelf_known, G_Shelf_known, b_Shelf_known, kp_Shelf_known⟩ := ok_Shelf_known (P := P) (w := w) (base := base) T
  refine ⟨fd, F.ok sc_Shelf_deeds (fun vs H Q E h => len_Shelf_deeds h) (fun cdv A outer s H vs Q E hr h => ?_), F.bindsN fun _ _ _ _ _ _ us hl => match us, hl with | [_, _], _ => rfl, F.kp⟩
  refine ⟨t_Shelf_deeds P w K E, ?_, rd_Shelf_deeds T.kf h⟩
  exact (pss_cons (ps_set (i := 2) sc_Shelf_deeds.nd rfl (Or.inl rfl) (pe_lst pa_nil))
  (pss_cons (ps_for (passes_of rfl) rfl (pi_list (pe_fld (pe_meth (pv 0) T.c_Shelf T.m_Shelf_known G_Shelf_known hr b_Shelf_known .nil (passes_call (takes_of rfl rfl rfl rfl) (fun _ _ _ _ h => h)) (pa_cons (pv 1) pa_nil)) rfl)) (pg_name (i := 3) sc_Shelf_deeds.nd rfl (Or.inl rfl)) (pss_cons (ps_if (pt_cmpR op_eq (pe_ix ix_tup (pv 3) pe_int (fun _ _ => rfl)) pe_str (nomark _)) (pss_one (ps_set (i := 3) sc_Shelf_deeds.nd rfl (Or.inl rfl) (pe_tup (pa_cons pe_str (pa_cons (pe_ix ix_tup (pv 3) pe_int (fun _ _ => rfl)) (pa_cons (pe_callTy k_list (by rfl) T.b_list (by decide +kernel) (pa_cons (pe_ix ix_tup (pv 3) pe_int (fun _ _ => rfl)) pa_nil)) pa_nil)))))) pss_nil)
  (pss_one (ps_expr (pe_bm PySem.F.plainAttrs_list PySem.F.slot_list_append PySem.F.type_list_append mt_append (pv 2) (pa_cons (pv 3) pa_nil))))))
  (pss_one (ps_ret (pv 2)))))

theorem ok_Shelf_value {P : Program} {w : World} {K : PySem.W.Frag} {mg : Str → Option Value} {base : Heap} (T : Txt K mg) : OkD P w K mg base (L2.CX P w) 3 ("Shelf", some "value") ["self", "name"] (sp_Shelf_value P w K) := by
  obtain ⟨fd, F⟩ := T.f_Shelf_value
  obtain ⟨fd_is_name, G_is_name, b_is_name, kp_is_name⟩ := ok_is_name (P := P) (w := w) (base := base) T
  obtain ⟨fd_newest, G_newest, b_newest, kp_newest⟩ := ok_newest (P := P) (w := w) (base := base) T
  refine ⟨fd, F.ok sc_Shelf_value (fun vs H Q E h => len_Shelf_value h) (fun cdv A outer s H vs Q E hr h => ?_), F.bindsN fun _ _ _ _ _ _ us hl => match us, hl with | [_, _], _ => rfl, F.kp⟩
  have hu := hu_of hr
  refine ⟨t_Shelf_value P w K E, ?_, rd_Shelf_value T.kf h⟩
  exact (pss_cons (ps_if (pt_not (pt_val (pe_call G_is_name hr (by rfl) T.g_is_name kp_is_name b_is_name .nil pass0 (pa_cons (pv 1) pa_nil)))) (pss_one (ps_raise rfl (takes_of rfl rfl rfl rfl) (pmk_own PySem.F.excBase_ValueError (T.x_NoName).1 T.g_NoName (T.x_NoName).2.1 (raises_own (T.x_NoName).2.2.1 (T.x_NoName).2.2.2) (by exact rfl)))) pss_nil)
  (pss_one (ps_ret (pe_call G_newest (hr.mono (by decide)) (by rfl) T.g_newest kp_newest b_newest .nil pass0 (pa_cons (pe_dget2 hu (pe_fld (pv 0) rfl) (pv 1) (pe_lst pa_nil) ⟨rfl, rfl, rfl, rfl⟩) (pa_cons (pe_callB k_len (by rfl) T.b_len PySem.boot_len (pa_cons (pe_fld (pv 0) rfl) pa_nil)) pa_nil))))))

theorem ok_Shelf_versions {P : Program} {w : World} {K : PySem.W.Frag} {mg : Str → Option Value} {base : Heap} (T : Txt K mg) : OkD P w K mg base (L2.CX P w) 3 ("Shelf", some "versions") ["self", "name"] (sp_Shelf_versions P w K) := by
  obtain ⟨fd, F⟩ := T.f_Shelf_versions
  obtain ⟨fd_is_name, G_is_name, b_is_name, kp_is_name⟩ := ok_is_name (P := P) (w := w) (base := base) T
  refine ⟨fd, F.ok sc_Shelf_versions (fun vs H Q E h => len_Shelf_versions h) (fun cdv A outer s H vs Q E hr h => ?_), F.bindsN fun _ _ _ _ _ _ us hl => match us, hl with | [_, _], _ => rfl, F.kp⟩
  have hu := hu_of hr
  refine ⟨t_Shelf_versions P w K E, ?_, rd_Shelf_versions T.kf h⟩
  exact (pss_cons (ps_if (pt_not (pt_val (pe_call G_is_name hr (by rfl) T.g_is_name kp_is_name b_is_name .nil pass0 (pa_cons (pv 1) pa_nil)))) (pss_one (ps_raise rfl (takes_of rfl rfl rfl rfl) (pmk_own PySem.F.excBase_ValueError (T.x_NoName).1 T.g_NoName (T.x_NoName).2.1 (raises_own (T.x_NoName).2.2.1 (T.x_NoName).2.2.2) (by exact rfl)))) pss_nil)
  (pss_one (ps_ret (pe_callTy k_list (by rfl) T.b_list (by decide +kernel) (pa_cons (pe_dget2 hu (pe_fld (pv 0) rfl) (pv 1) (pe_lst pa_nil) ⟨rfl, rfl, rfl, rfl⟩) pa_nil)))))

theorem ok_l_whole {P : Program} {w : World} {K : PySem.W.Frag} {mg : Str → Option Value} {base : Heap} (T : Txt K mg) : OkD P w K mg base CX0 1 ("_law_whole", none) ["_law_found"] (sp_l_whole P w K) := by
  obtain ⟨fd, F⟩ := T.f_l_whole
  refine ⟨fd, F.ok sc_l_whole (fun vs H Q E h => len_l_whole h) (fun cdv A outer s H vs Q E hr h => ?_), F.bindsN fun _ _ _ _ _ _ us hl => match us, hl with | [_], _ => rfl, F.kp⟩
  refine ⟨t_l_whole P w K, ?_, rd_l_whole h⟩
  exact PSs.nox (pss_one (ps_ret (pe_and (pe_callB call_isi (by rfl) T.b_isinstance (by decide +kernel) (pa_cons (pv 0) (pa_cons (pe_bltn (by rfl) T.b_int (by decide +kernel) rfl) pa_nil))) (pe_one (pe_not (pe_callB call_isi (by rfl) T.b_isinstance (by decide +kernel) (pa_cons (pv 0) (pa_cons (pe_bltn (by rfl) T.b_bool (by decide +kernel) rfl) pa_nil))))))))

theorem ok_l_cell_at {P : Program} {w : World} {K : PySem.W.Frag} {mg : Str → Option Value} {base : Heap} (T : Txt K mg) : OkD P w K mg base CX0 1 ("_law_cell_at", none) ["_law_script", "_law_k"] (sp_l_cell_at P w K) := by
  obtain ⟨fd, F⟩ := T.f_l_cell_at
  refine ⟨fd, F.ok sc_l_cell_at (fun vs H Q E h => len_l_cell_at h) (fun cdv A outer s H vs Q E hr h => ?_), F.bindsN fun _ _ _ _ _ _ us hl => match us, hl with | [_, _], _ => rfl, F.kp⟩
  refine ⟨t_l_cell_at P w K, ?_, rd_l_cell_at h⟩
  exact PSs.nox (pss_cons (ps_if (pt_cmpR o_lt (pv 1) (pe_callB k_len (by rfl) T.b_len PySem.boot_len (pa_cons (pv 0) pa_nil)) (nomark _)) (pss_one (ps_ret (pe_ix ix_list (pv 0) (pv 1) (fun _ _ => rfl)))) pss_nil)
  (pss_one (ps_ret pe_int)))

theorem ok_l_mixed {P : Program} {w : World} {K : PySem.W.Frag} {mg : Str → Option Value} {base : Heap} (T : Txt K mg) : OkD P w K mg base CX0 1 ("_law_mixed", none) ["_law_number"] (sp_l_mixed P w K) := by
  obtain ⟨fd, F⟩ := T.f_l_mixed
  refine ⟨fd, F.ok sc_l_mixed (fun vs H Q E h => len_l_mixed h) (fun cdv A outer s H vs Q E hr h => ?_), F.bindsN fun _ _ _ _ _ _ us hl => match us, hl with | [_], _ => rfl, F.kp⟩
  refine ⟨t_l_mixed P w K, ?_, rd_l_mixed h⟩
  exact PSs.nox (pss_one (ps_ret (pe_op o_mod (pe_op o_add (pe_op o_mul (pv 0) pe_int) pe_int) pe_int)))

theorem ok_l_name_by {P : Program} {w : World} {K : PySem.W.Frag} {mg : Str → Option Value} {base : Heap} (T : Txt K mg) : OkD P w K mg base CX0 2 ("_law_name_by", none) ["_law_cell"] (sp_l_name_by P w K) := by
  obtain ⟨fd, F⟩ := T.f_l_name_by
  obtain ⟨fd_l_mixed, G_l_mixed, b_l_mixed, kp_l_mixed⟩ := ok_l_mixed (P := P) (w := w) (base := base) T
  refine ⟨fd, F.ok sc_l_name_by (fun vs H Q E h => len_l_name_by h) (fun cdv A outer s H vs Q E hr h => ?_), F.bindsN fun _ _ _ _ _ _ us hl => match us, hl with | [_], _ => rfl, F.kp⟩
  refine ⟨t_l_name_by P w K, ?_, rd_l_name_by h⟩
  exact PSs.nox (pss_cons (ps_set (i := 1) sc_l_name_by.nd rfl (Or.inl rfl) pe_str)
  (pss_cons (ps_set (i := 2) sc_l_name_by.nd rfl (Or.inl rfl) pe_str)
  (pss_cons (ps_set (i := 3) sc_l_name_by.nd rfl (Or.inl rfl) (pv 0))
  (pss_cons (ps_for PassesOwn.never rfl (pi_range1 rfl T.b_range (pa_cons (pe_op o_add pe_int (pe_op o_mod (pv 0) pe_int)) pa_nil)) (pg_name (i := 4) sc_l_name_by.nd rfl (Or.inl rfl)) (pss_cons (ps_set (i := 3) sc_l_name_by.nd rfl (Or.inl rfl) (pe_call G_l_mixed hr (by rfl) T.g__law_mixed kp_l_mixed b_l_mixed .nil pass0 (pa_cons (pv 3) pa_nil)))
  (pss_one (ps_set (i := 2) sc_l_name_by.nd rfl (Or.inl rfl) (pe_op o_cat (pv 2) (pe_ix ix_str (pv 1) (pe_op o_mod (pv 3) pe_int) (fun _ _ => rfl)))))))
  (pss_one (ps_ret (pv 2)))))))

theorem ok_l_twin {P : Program} {w : World} {K : PySem.W.Frag} {mg : Str → Option Value} {base : Heap} (T : Txt K mg) : OkD P w K mg base CX0 1 ("_law_twin", none) ["_law_name", "_law_cell"] (sp_l_twin P w K) := by
  obtain ⟨fd, F⟩ := T.f_l_twin
  refine ⟨fd, F.ok sc_l_twin (fun vs H Q E h => len_l_twin h) (fun cdv A outer s H vs Q E hr h => ?_), F.bindsN fun _ _ _ _ _ _ us hl => match us, hl with | [_, _], _ => rfl, F.kp⟩
  refine ⟨t_l_twin P w K, ?_, rd_l_twin h⟩
  exact PSs.nox (pss_cons (ps_set (i := 2) sc_l_twin.nd rfl (Or.inl rfl) pe_str)
  (pss_cons (ps_set (i := 3) sc_l_twin.nd rfl (Or.inl rfl) (pe_op o_mod (pv 1) (pe_callB k_lenS (by rfl) T.b_len PySem.boot_len (pa_cons (pv 0) pa_nil))))
  (pss_cons (ps_set (i := 4) sc_l_twin.nd rfl (Or.inl rfl) (pe_op o_add (pe_op o_add (pe_bm PySem.F.plainAttrs_str PySem.F.slot_str_find PySem.F.type_str_find m_find (pv 2) (pa_cons (pe_ix ix_str (pv 0) (pv 3) (fun _ _ => rfl)) pa_nil)) pe_int) (pe_op o_mod (pe_op o_div (pv 1) pe_int) pe_int)))
  (pss_one (ps_ret (pe_op o_cat (pe_op o_cat (pe_slice sl_str (pv 0) po_none (po_some (pv 3))) (pe_ix ix_str (pv 2) (pe_op o_mod (pv 4) pe_int) (fun _ _ => rfl))) (pe_slice sl_str (pv 0) (po_some (pe_op o_add (pv 3) pe_int)) po_none)))))))

theorem ok_l_pool {P : Program} {w : World} {K : PySem.W.Frag} {mg : Str → Option Value} {base : Heap} (T : Txt K mg) : OkD P w K mg base CX0 3 ("_law_pool", none) ["_law_one", "_law_two"] (sp_l_pool P w K) := by
  obtain ⟨fd, F⟩ := T.f_l_pool
  obtain ⟨fd_l_name_by, G_l_name_by, b_l_name_by, kp_l_name_by⟩ := ok_l_name_by (P := P) (w := w) (base := base) T
  obtain ⟨fd_l_twin, G_l_twin, b_l_twin, kp_l_twin⟩ := ok_l_twin (P := P) (w := w) (base := base) T
  refine ⟨fd, F.ok sc_l_pool (fun vs H Q E h => len_l_pool h) (fun cdv A outer s H vs Q E hr h => ?_), F.bindsN fun _ _ _ _ _ _ us hl => match us, hl with | [_, _], _ => rfl, F.kp⟩
  refine ⟨t_l_pool P w K, ?_, rd_l_pool h⟩
  exact PSs.nox (pss_cons (ps_set (i := 2) sc_l_pool.nd rfl (Or.inl rfl) (pe_call G_l_name_by hr (by rfl) T.g__law_name_by kp_l_name_by b_l_name_by .nil pass0 (pa_cons (pv 0) pa_nil)))
  (pss_cons (ps_set (i := 3) sc_l_pool.nd rfl (Or.inl rfl) (pe_call G_l_name_by hr (by rfl) T.g__law_name_by kp_l_name_by b_l_name_by .nil pass0 (pa_cons (pv 1) pa_nil)))
  (pss_cons (ps_set (i := 4) sc_l_pool.nd rfl (Or.inl rfl) (pe_lst (pa_cons (pv 2) (pa_cons (pe_call G_l_twin (hr.mono (by decide)) (by rfl) T.g__law_twin kp_l_twin b_l_twin .nil pass0 (pa_cons (pv 2) (pa_cons (pv 1) pa_nil))) (pa_cons (pv 3) (pa_cons (pe_slice sl_str (pe_op o_cat (pv 2) (pv 3)) po_none (po_some pe_int)) (pa_cons (pe_slice sl_str (pv 2) po_none (po_some (pe_op o_add pe_int (pe_op o_mod (pv 1) (pe_callB k_lenS (by rfl) T.b_len PySem.boot_len (pa_cons (pv 2) pa_nil)))))) pa_nil)))))))
  (pss_cons (ps_set (i := 4) sc_l_pool.nd rfl (Or.inl rfl) (pe_slice sl_list (pe_op op_cat (pv 4) (pe_lst (pa_cons (pe_slice sl_str (pe_op o_cat (pv 3) pe_str) po_none (po_some pe_int)) (pa_cons (pe_slice sl_str (pe_op o_cat (pe_op o_cat (pv 3) pe_str) (pv 2)) po_none (po_some pe_int)) pa_nil)))) po_none (po_some (pe_op o_add pe_int (pe_op o_mod (pe_op o_div (pv 0) pe_int) pe_int)))))
  (pss_cons (ps_if (pt_cmpR op_eq (pe_op o_mod (pe_op o_div (pv 1) pe_int) pe_int) pe_int (nomark _)) (pss_one (ps_set (i := 4) sc_l_pool.nd rfl (Or.inl rfl) (pe_op op_cat (pv 4) (pe_lc (own := [("_law_k", 5)]) (g := gName 5) rfl sc_l_pool.nd (pi_range1 rfl T.b_range (pa_cons (pe_op o_mod (pe_op o_div (pv 1) pe_int) pe_int) pa_nil)) (blkOk_by (own := [("_law_k", 5)]) (N := ["_law_one", "_law_two", "_law_first", "_law_second", "_law_pool_here", "_law_k"]) (sc := defScope s_l_pool) (by decide +kernel)) (fun _ _ _ _ _ => pg_name (i := 5) sc_l_pool.nd rfl (Or.inl rfl)) (fun _ _ _ _ _ => pts_nil) (fun _ _ _ _ _ => (pe_op o_cat pe_str (pe_callTy k_strI (by rfl) T.b_str (by decide +kernel) (pa_cons (pv 5) pa_nil)))))))) pss_nil)
  (pss_one (ps_ret (pv 4))))))))

theorem ok_l_value_by {P : Program} {w : World} {K : PySem.W.Frag} {mg : Str → Option Value} {base : Heap} (T : Txt K mg) : OkD P w K mg base CX0 1 ("_law_value_by", none) ["_law_cell"] (sp_l_value_by P w K) := by
  obtain ⟨fd, F⟩ := T.f_l_value_by
  refine ⟨fd, F.ok sc_l_value_by (fun vs H Q E h => len_l_value_by h) (fun cdv A outer s H vs Q E hr h => ?_), F.bindsN fun _ _ _ _ _ _ us hl => match us, hl with | [_], _ => rfl, F.kp⟩
  refine ⟨t_l_value_by P w K, ?_, rd_l_value_by h⟩
  exact PSs.nox (pss_cons (ps_if (pt_cmpR op_eq (pe_op o_mod (pv 0) pe_int) pe_int (nomark _)) (pss_one (ps_ret pe_non)) pss_nil)
  (pss_cons (ps_if (pt_cmpR op_eq (pe_op o_mod (pv 0) pe_int) pe_int (nomark _)) (pss_one (ps_ret (pe_ix ix_list (pe_lst (pa_cons pe_int (pa_cons pe_int (pa_cons (pe_un o_neg pe_int) (pa_cons (pe_op o_pow pe_int pe_int) (pa_cons (pe_un o_neg (pe_op o_pow pe_int pe_int)) pa_nil)))))) (pe_op o_mod (pe_op o_div (pv 0) pe_int) pe_int) (fun _ _ => rfl)))) pss_nil)
  (pss_cons (ps_if (pt_cmpR op_eq (pe_op o_mod (pv 0) pe_int) pe_int (nomark _)) (pss_one (ps_ret (pe_op o_mod (pe_op o_div (pv 0) pe_int) pe_int))) pss_nil)
  (pss_one (ps_ret (pe_op o_sub (pe_op o_mod (pe_op o_div (pv 0) pe_int) (pe_op o_add (pe_op o_mul pe_int (pe_op o_pow pe_int pe_int)) pe_int)) (pe_op o_pow pe_int pe_int)))))))

theorem ok_l_same {P : Program} {w : World} {K : PySem.W.Frag} {mg : Str → Option Value} {base : Heap} (T : Txt K mg) : OkD P w K mg base CX0 2 ("_law_same", none) ["_law_told", "_law_due"] (sp_l_same P w K) := by
  obtain ⟨fd, F⟩ := T.f_l_same
  obtain ⟨fd_l_whole, G_l_whole, b_l_whole, kp_l_whole⟩ := ok_l_whole (P := P) (w := w) (base := base) T
  refine ⟨fd, F.ok sc_l_same (fun vs H Q E h => len_l_same h) (fun cdv A outer s H vs Q E hr h => ?_), F.bindsN fun _ _ _ _ _ _ us hl => match us, hl with | [_, _], _ => rfl, F.kp⟩
  refine ⟨t_l_same P w K, ?_, rd_l_same h⟩
  exact PSs.nox (pss_cons (ps_if (PW.pt (pw_or (pt_cmpR o_isN (pv 1) pe_non (nomark _)) (pw_or1 (pt_cmpR o_isN (pv 0) pe_non (nomark _))))) (pss_one (ps_ret (pe_and (pe_cmpR o_isN (pv 1) pe_non (nomark _)) (pe_one (pe_cmpR o_isN (pv 0) pe_non (nomark _)))))) pss_nil)
  (pss_one (ps_ret (pe_and (pe_call G_l_whole hr (by rfl) T.g__law_whole kp_l_whole b_l_whole .nil pass0 (pa_cons (pv 0) pa_nil)) (pe_one (pe_cmpR op_eq (pv 0) (pv 1) (nomark _)))))))

theorem ok_l_pairs {P : Program} {w : World} {K : PySem.W.Frag} {mg : Str → Option Value} {base : Heap} (T : Txt K mg) : OkD P w K mg base CX0 3 ("_law_pairs", none) ["_law_told", "_law_due"] (sp_l_pairs P w K) := by
  obtain ⟨fd, F⟩ := T.f_l_pairs
  obtain ⟨fd_l_same, G_l_same, b_l_same, kp_l_same⟩ := ok_l_same (P := P) (w := w) (base := base) T
  refine ⟨fd, F.ok sc_l_pairs (fun vs H Q E h => len_l_pairs h) (fun cdv A outer s H vs Q E hr h => ?_), F.bindsN fun _ _ _ _ _ _ us hl => match us, hl with | [_, _], _ => rfl, F.kp⟩
  refine ⟨t_l_pairs P w K, ?_, rd_l_pairs h⟩
  exact PSs.nox (pss_cons (ps_if (PW.pt (pw_or (pt_not (pt_val (pe_callB call_isi (by rfl) T.b_isinstance (by decide +kernel) (pa_cons (pv 0) (pa_cons (pe_bltn (by rfl) T.b_list (by decide +kernel) rfl) pa_nil))))) (pw_or1 (pt_cmpR op_ne (pe_callB k_len (by rfl) T.b_len PySem.boot_len (pa_cons (pv 0) pa_nil)) (pe_callB k_len (by rfl) T.b_len PySem.boot_len (pa_cons (pv 1) pa_nil)) (nomark _))))) (pss_one (ps_ret pe_bl)) pss_nil)
  (pss_cons (ps_for PassesOwn.never rfl (pi_range1 rfl T.b_range (pa_cons (pe_callB k_len (by rfl) T.b_len PySem.boot_len (pa_cons (pv 1) pa_nil)) pa_nil)) (pg_name (i := 2) sc_l_pairs.nd rfl (Or.inl rfl)) (pss_cons (ps_if (PW.pt (pw_or (pt_not (pt_val (pe_callB call_isi (by rfl) T.b_isinstance (by decide +kernel) (pa_cons (pe_ix ix_list (pv 0) (pv 2) (fun _ _ => rfl)) (pa_cons (pe_bltn (by rfl) T.b_tuple (by decide +kernel) rfl) pa_nil))))) (pw_or (pt_cmpR op_ne (pe_callB k_len (by rfl) T.b_len PySem.boot_len (pa_cons (pe_ix ix_list (pv 0) (pv 2) (fun _ _ => rfl)) pa_nil)) pe_int (nomark _)) (pw_or1 (pt_not (pt_val (pe_callB call_isi (by rfl) T.b_isinstance (by decide +kernel) (pa_cons (pe_ix ix_tup (pe_ix ix_list (pv 0) (pv 2) (fun _ _ => rfl)) pe_int (fun _ _ => rfl)) (pa_cons (pe_bltn (by rfl) T.b_str (by decide +kernel) rfl) pa_nil))))))))) (pss_one (ps_ret pe_bl)) pss_nil)
  (pss_one (ps_if (PW.pt (pw_or (pt_cmpR op_ne (pe_ix ix_tup (pe_ix ix_list (pv 0) (pv 2) (fun _ _ => rfl)) pe_int (fun _ _ => rfl)) (pe_ix ix_tup (pe_ix ix_list (pv 1) (pv 2) (fun _ _ => rfl)) pe_int (fun _ _ => rfl)) (nomark _)) (pw_or1 (pt_not (pt_val (pe_call G_l_same hr (by rfl) T.g__law_same kp_l_same b_l_same .nil pass0 (pa_cons (pe_ix ix_tup (pe_ix ix_list (pv 0) (pv 2) (fun _ _ => rfl)) pe_int (fun _ _ => rfl)) (pa_cons (pe_ix ix_tup (pe_ix ix_list (pv 1) (pv 2) (fun _ _ => rfl)) pe_int (fun _ _ => rfl)) pa_nil)))))))) (pss_one (ps_ret pe_bl)) pss_nil))))
  (pss_one (ps_ret pe_bl))))

theorem ok_l_deed_by {P : Program} {w : World} {K : PySem.W.Frag} {mg : Str → Option Value} {base : Heap} (T : Txt K mg) : OkD P w K mg base (L2.CX P w) 5 ("_law_deed_by", none) ["_law_shelf", "_law_who", "_law_name", "_law_more", "_law_cell"] (sp_l_deed_by P w K) := by
  obtain ⟨fd, F⟩ := T.f_l_deed_by
  obtain ⟨fd_Shelf_read, G_Shelf_read, b_Shelf_read, kp_Shelf_read⟩ := ok_Shelf_read (P := P) (w := w) (base := base) T
  obtain ⟨fd_Shelf_under, G_Shelf_under, b_Shelf_under, kp_Shelf_under⟩ := ok_Shelf_under (P := P) (w := w) (base := base) T
  obtain ⟨fd_Shelf_write, G_Shelf_write, b_Shelf_write, kp_Shelf_write⟩ := ok_Shelf_write (P := P) (w := w) (base := base) T
  obtain ⟨fd_l_value_by, G_l_value_by, b_l_value_by, kp_l_value_by⟩ := ok_l_value_by (P := P) (w := w) (base := base) T
  obtain ⟨fd_Shelf_made, G_Shelf_made, b_Shelf_made, kp_Shelf_made⟩ := ok_Shelf_made (P := P) (w := w) (base := base) T
  obtain ⟨fd_Shelf_back, G_Shelf_back, b_Shelf_back, kp_Shelf_back⟩ := ok_Shelf_back (P := P) (w := w) (base := base) T
  refine ⟨fd, F.ok sc_l_deed_by (fun vs H Q E h => len_l_deed_by h) (fun cdv A outer s H vs Q E hr h => ?_), F.bindsN fun _ _ _ _ _ _ us hl => match us, hl with | [_, _, _, _, _], _ => rfl, F.kp⟩
  refine ⟨t_l_deed_by P w K E, ?_, rd_l_deed_by h⟩
  exact (pss_cons (ps_if (pt_cmpR o_lt (pe_op o_mod (pv 3) pe_int) pe_int (nomark _)) (pss_one (ps_ret (pe_tup (pa_cons pe_str (pa_cons (pv 2) (pa_cons (pe_meth (pv 0) T.c_Shelf T.m_Shelf_read G_Shelf_read hr b_Shelf_read .nil (passes_call (takes_of rfl rfl rfl rfl) (fun _ _ _ _ h => h)) (pa_cons (pv 1) (pa_cons (pv 2) pa_nil))) pa_nil)))))) pss_nil)
  (pss_cons (ps_if (pt_cmpR o_lt (pe_op o_mod (pv 3) pe_int) pe_int (nomark _)) (pss_cons (ps_set (i := 5) sc_l_deed_by.nd rfl (Or.inl rfl) (pe_slice sl_str (pv 2) po_none (po_some (pe_op o_mod (pe_op o_div (pv 3) pe_int) (pe_op o_add (pe_callB k_lenS (by rfl) T.b_len PySem.boot_len (pa_cons (pv 2) pa_nil)) pe_int)))))
  (pss_cons (ps_if (pt_cmpR op_eq (pe_op o_mod (pe_op o_div (pv 3) pe_int) pe_int) pe_int (nomark _)) (pss_one (ps_set (i := 5) sc_l_deed_by.nd rfl (Or.inl rfl) (pe_slice sl_str (pe_op o_cat (pv 5) pe_str) po_none (po_some pe_int)))) pss_nil)
  (pss_one (ps_ret (pe_tup (pa_cons pe_str (pa_cons (pv 5) (pa_cons (pe_meth (pv 0) T.c_Shelf T.m_Shelf_under G_Shelf_under hr b_Shelf_under .nil (passes_call (takes_of rfl rfl rfl rfl) (fun _ _ _ _ h => h)) (pa_cons (pv 1) (pa_cons (pv 5) pa_nil))) pa_nil)))))))) pss_nil)
  (pss_cons (ps_if (pt_cmpR o_lt (pe_op o_mod (pv 3) pe_int) pe_int (nomark _)) (pss_cons (ps_expr (pe_meth (pv 0) T.c_Shelf T.m_Shelf_write G_Shelf_write hr b_Shelf_write .nil (passes_call (takes_of rfl rfl rfl rfl) (fun _ _ _ _ h => h)) (pa_cons (pv 1) (pa_cons (pv 2) (pa_cons (pe_call G_l_value_by (hr.mono (by decide)) (by rfl) T.g__law_value_by kp_l_value_by b_l_value_by .nil pass0 (pa_cons (pv 4) pa_nil)) pa_nil)))))
  (pss_one (ps_ret (pe_tup (pa_cons pe_str (pa_cons (pv 2) (pa_cons (pe_call G_l_value_by (hr.mono (by decide)) (by rfl) T.g__law_value_by kp_l_value_by b_l_value_by .nil pass0 (pa_cons (pv 4) pa_nil)) pa_nil))))))) pss_nil)
  (pss_cons (ps_set (i := 6) sc_l_deed_by.nd rfl (Or.inl rfl) (pe_op o_mod (pe_op o_div (pv 3) pe_int) (pe_op o_add (pe_meth (pv 0) T.c_Shelf T.m_Shelf_made G_Shelf_made hr b_Shelf_made .nil (passes_call (takes_of rfl rfl rfl rfl) (fun _ _ _ _ h => h)) (pa_cons (pv 1) pa_nil)) pe_int)))
  (pss_cons (ps_expr (pe_meth (pv 0) T.c_Shelf T.m_Shelf_back G_Shelf_back hr b_Shelf_back .nil (passes_call (takes_of rfl rfl rfl rfl) (fun _ _ _ _ h => h)) (pa_cons (pv 1) (pa_cons (pv 6) pa_nil))))
  (pss_one (ps_ret (pe_tup (pa_cons pe_str (pa_cons (pv 6) pa_nil))))))))))

theorem ok_l_copied {P : Program} {w : World} {K : PySem.W.Frag} {mg : Str → Option Value} {base : Heap} (T : Txt K mg) : OkD P w K mg base CX0 1 ("_law_copied", none) ["_law_deed"] (sp_l_copied P w K) := by
  obtain ⟨fd, F⟩ := T.f_l_copied
  refine ⟨fd, F.ok sc_l_copied (fun vs H Q E h => len_l_copied h) (fun cdv A outer s H vs Q E hr h => ?_), F.bindsN fun _ _ _ _ _ _ us hl => match us, hl with | [_], _ => rfl, F.kp⟩
  refine ⟨t_l_copied P w K, ?_, rd_l_copied h⟩
  exact PSs.nox (pss_cons (ps_if (pt_cmpR op_eq (pe_ix ix_tup (pv 0) pe_int (fun _ _ => rfl)) pe_str (nomark _)) (pss_one (ps_ret (pe_tup (pa_cons pe_str (pa_cons (pe_ix ix_tup (pv 0) pe_int (fun _ _ => rfl)) (pa_cons (pe_callTy k_list (by rfl) T.b_list (by decide +kernel) (pa_cons (pe_ix ix_tup (pv 0) pe_int (fun _ _ => rfl)) pa_nil)) pa_nil)))))) pss_nil)
  (pss_one (ps_ret (pv 0))))

theorem ok_l_tried {P : Program} {w : World} {K : PySem.W.Frag} {mg : Str → Option Value} {base : Heap} (T : Txt K mg) : OkD P w K mg base CX0 6 ("_law_tried", none) ["_law_shelf", "_law_told", "_law_kept", "_law_held", "_law_who", "_law_name", "_law_more", "_law_cell"] (sp_l_tried P w K) := by
  obtain ⟨fd, F⟩ := T.f_l_tried
  obtain ⟨fd_l_deed_by, G_l_deed_by, b_l_deed_by, kp_l_deed_by⟩ := ok_l_deed_by (P := P) (w := w) (base := base) T
  obtain ⟨fd_l_copied, G_l_copied, b_l_copied, kp_l_copied⟩ := ok_l_copied (P := P) (w := w) (base := base) T
  obtain ⟨fd_Shelf_keep, G_Shelf_keep, b_Shelf_keep, kp_Shelf_keep⟩ := ok_Shelf_keep (P := P) (w := w) (base := base) T
  obtain ⟨fd_Shelf_drop, G_Shelf_drop, b_Shelf_drop, kp_Shelf_drop⟩ := ok_Shelf_drop (P := P) (w := w) (base := base) T
  refine ⟨fd, F.ok sc_l_tried (fun vs H Q E h => len_l_tried h) (fun cdv A outer s H vs Q E hr h => ?_), F.bindsN fun _ _ _ _ _ _ us hl => match us, hl with | [_, _, _, _, _, _, _, _], _ => rfl, F.kp⟩
  refine ⟨t_l_tried P w K, ?_, rd_l_tried T.kx h⟩
  exact PSs.nox (pss_cons (ps_try_only (tb := fun W => (tIfS (tTest (tOp r_lt (tOp r_mod (tVar 6) (tC (.int 16))) (tC (.int 13)))) (tSeq (tAsg (tCallS (sp_l_deed_by P w K) (WE W) (tCons (tVar 0) (tCons (tVar 4) (tCons (tVar 5) (tCons (tVar 6) (tCons (tVar 7) tNil)))))) (gName 8)) (tSeq (tDrop (tBM K "list" rAppend (tOp (rIxL K) (tVar 1) (tVar 4)) (tCons (tCall (sp_l_copied P w K) [] E0 (tCons (tVar 8) tNil)) tNil))) (tIfS (tTest (tOp rEq (tOp (rIxT K) (tVar 8) (tC (.int 0))) (tC (.str "under")))) (tDrop (tBM K "list" rAppend (tVar 3) (tCons (tTup (tCons (tOp (rIxT K) (tVar 8) (tC (.int 2))) (tCons (tCB (c_list K) (tCons (tOp (rIxT K) (tVar 8) (tC (.int 2))) tNil)) tNil))) tNil))) tNext))) (tIfS (tOr (tTest (tOp r_lt (tOp r_mod (tVar 6) (tC (.int 16))) (tC (.int 15)))) (tTest (tOp rEq (tOp r_mod (tOp r_div (tVar 6) (tC (.int 16))) (tC (.int 2))) (tC (.int 0))))) (tSeq (tDrop (tMethS (He.ga K "Shelf") "keep" (sp_Shelf_keep P w K) (WE W) (tVar 0) (tCons (tVar 4) tNil))) (tDrop (tBM K "list" rAppend (tVar 2) (tCons (tVar 4) tNil)))) (tDrop (tMethS (He.ga K "Shelf") "drop" (sp_Shelf_drop P w K) (WE W) (tVar 0) (tCons (tVar 4) tNil)))))) (ts := fun _ _ _ => (tRet (tC (.bl false)))) (Wout := (fun _ _ _ _ => False)) rfl rfl ⟨rfl, by decide, Or.inl T.g_DealError⟩ takes0
  (fun W pn xe tk _ => (pss_one (ps_if (pt_cmpR o_lt (pe_op o_mod (pv 6) pe_int) pe_int (nomark _)) (pss_cons (ps_set (i := 8) sc_l_tried.nd rfl (Or.inl rfl) (pe_callS G_l_deed_by hr (by rfl) T.g__law_deed_by kp_l_deed_by b_l_deed_by (fun σ => passAt tk σ) (pa_cons (pv 0) (pa_cons (pv 4) (pa_cons (pv 5) (pa_cons (pv 6) (pa_cons (pv 7) pa_nil)))))))
  (pss_cons (ps_expr (pe_bm PySem.F.plainAttrs_list PySem.F.slot_list_append PySem.F.type_list_append mt_append (pe_ix ix_list (pv 1) (pv 4) (fun _ _ => rfl)) (pa_cons (pe_call G_l_copied (hr.mono (by decide)) (by rfl) T.g__law_copied kp_l_copied b_l_copied .nil pass0 (pa_cons (pv 8) pa_nil)) pa_nil)))
  (pss_one (ps_if (pt_cmpR op_eq (pe_ix ix_tup (pv 8) pe_int (fun _ _ => rfl)) pe_str (nomark _)) (pss_one (ps_expr (pe_bm PySem.F.plainAttrs_list PySem.F.slot_list_append PySem.F.type_list_append mt_append (pv 3) (pa_cons (pe_tup (pa_cons (pe_ix ix_tup (pv 8) pe_int (fun _ _ => rfl)) (pa_cons (pe_callTy k_list (by rfl) T.b_list (by decide +kernel) (pa_cons (pe_ix ix_tup (pv 8) pe_int (fun _ _ => rfl)) pa_nil)) pa_nil))) pa_nil)))) pss_nil)))) (pss_one (ps_if (PW.pt (pw_or (pt_cmpR o_lt (pe_op o_mod (pv 6) pe_int) pe_int (nomark _)) (pw_or1 (pt_cmpR op_eq (pe_op o_mod (pe_op o_div (pv 6) pe_int) pe_int) pe_int (nomark _))))) (pss_cons (ps_expr (pe_methSS (pv 0) T.c_Shelf T.m_Shelf_keep G_Shelf_keep (hr.mono (by decide)) b_Shelf_keep (fun σ => passAt tk σ) (pa_cons (pv 4) pa_nil)))
  (pss_one (ps_expr (pe_bm PySem.F.plainAttrs_list PySem.F.slot_list_append PySem.F.type_list_append mt_append (pv 2) (pa_cons (pv 4) pa_nil))))) (pss_one (ps_expr (pe_methSS (pv 0) T.c_Shelf T.m_Shelf_drop G_Shelf_drop (hr.mono (by decide)) b_Shelf_drop (fun σ => passAt tk σ) (pa_cons (pv 4) pa_nil))))))))) (fun _ _ _ _ _ _ _ => (pss_one (ps_ret pe_bl))))
  (pss_one (ps_ret pe_bl)))

theorem ok_l_short {P : Program} {w : World} {K : PySem.W.Frag} {mg : Str → Option Value} {base : Heap} (T : Txt K mg) : OkD P w K mg base CX0 7 ("_law_short", none) ["_law_shelf", "_law_told", "_law_kept", "_law_held", "_law_pool_here", "_law_many"] (sp_l_short P w K) := by
  obtain ⟨fd, F⟩ := T.f_l_short
  obtain ⟨fd_Shelf_begin, G_Shelf_begin, b_Shelf_begin, kp_Shelf_begin⟩ := ok_Shelf_begin (P := P) (w := w) (base := base) T
  obtain ⟨fd_l_tried, G_l_tried, b_l_tried, kp_l_tried⟩ := ok_l_tried (P := P) (w := w) (base := base) T
  refine ⟨fd, F.ok sc_l_short (fun vs H Q E h => len_l_short h) (fun cdv A outer s H vs Q E hr h => ?_), F.bindsN fun _ _ _ _ _ _ us hl => match us, hl with | [_, _, _, _, _, _], _ => rfl, F.kp⟩
  refine ⟨t_l_short P w K, ?_, rd_l_short h⟩
  exact PSs.nox (pss_one (ps_for PassesOwn.never rfl (pi_range1 rfl T.b_range (pa_cons (pv 5) pa_nil)) (pg_name (i := 6) sc_l_short.nd rfl (Or.inl rfl)) (pss_cons (ps_expr (pe_bm PySem.F.plainAttrs_list PySem.F.slot_list_append PySem.F.type_list_append mt_append (pv 1) (pa_cons (pe_lst pa_nil) pa_nil)))
  (pss_cons (ps_set (i := 7) sc_l_short.nd rfl (Or.inl rfl) (pe_op o_sub (pe_callB k_len (by rfl) T.b_len PySem.boot_len (pa_cons (pv 1) pa_nil)) pe_int))
  (pss_one (ps_if (pt_cmpR op_eq (pe_meth0 (pv 0) T.c_Shelf T.m_Shelf_begin G_Shelf_begin (hr.mono (by decide)) b_Shelf_begin .nil pass0 ) (pv 7) (nomark _)) (pss_cons (ps_expr (pe_call G_l_tried hr (by rfl) T.g__law_tried kp_l_tried b_l_tried .nil pass0 (pa_cons (pv 0) (pa_cons (pv 1) (pa_cons (pv 2) (pa_cons (pv 3) (pa_cons (pv 7) (pa_cons (pe_ix ix_list (pv 4) (pe_op o_mod (pv 6) (pe_callB k_len (by rfl) T.b_len PySem.boot_len (pa_cons (pv 4) pa_nil))) (fun _ _ => rfl)) (pa_cons pe_int (pa_cons (pv 6) pa_nil))))))))))
  (pss_one (ps_expr (pe_call G_l_tried hr (by rfl) T.g__law_tried kp_l_tried b_l_tried .nil pass0 (pa_cons (pv 0) (pa_cons (pv 1) (pa_cons (pv 2) (pa_cons (pv 3) (pa_cons (pv 7) (pa_cons pe_str (pa_cons pe_int (pa_cons pe_int pa_nil)))))))))))) pss_nil))))))

theorem ok_l_deed_same {P : Program} {w : World} {K : PySem.W.Frag} {mg : Str → Option Value} {base : Heap} (T : Txt K mg) : OkD P w K mg base CX0 4 ("_law_deed_same", none) ["_law_told", "_law_due"] (sp_l_deed_same P w K) := by
  obtain ⟨fd, F⟩ := T.f_l_deed_same
  obtain ⟨fd_l_whole, G_l_whole, b_l_whole, kp_l_whole⟩ := ok_l_whole (P := P) (w := w) (base := base) T
  obtain ⟨fd_l_pairs, G_l_pairs, b_l_pairs, kp_l_pairs⟩ := ok_l_pairs (P := P) (w := w) (base := base) T
  obtain ⟨fd_l_same, G_l_same, b_l_same, kp_l_same⟩ := ok_l_same (P := P) (w := w) (base := base) T
  refine ⟨fd, F.ok sc_l_deed_same (fun vs H Q E h => len_l_deed_same h) (fun cdv A outer s H vs Q E hr h => ?_), F.bindsN fun _ _ _ _ _ _ us hl => match us, hl with | [_, _], _ => rfl, F.kp⟩
  refine ⟨t_l_deed_same P w K, ?_, rd_l_deed_same h⟩
  exact PSs.nox (pss_cons (ps_if (PW.pt (pw_or (pt_not (pt_val (pe_callB call_isi (by rfl) T.b_isinstance (by decide +kernel) (pa_cons (pv 0) (pa_cons (pe_bltn (by rfl) T.b_tuple (by decide +kernel) rfl) pa_nil))))) (pw_or (pt_cmpR op_ne (pe_callB k_len (by rfl) T.b_len PySem.boot_len (pa_cons (pv 0) pa_nil)) (pe_callB k_len (by rfl) T.b_len PySem.boot_len (pa_cons (pv 1) pa_nil)) (nomark _)) (pw_or (pt_not (pt_val (pe_callB call_isi (by rfl) T.b_isinstance (by decide +kernel) (pa_cons (pe_ix ix_tup (pv 0) pe_int (fun _ _ => rfl)) (pa_cons (pe_bltn (by rfl) T.b_str (by decide +kernel) rfl) pa_nil))))) (pw_or1 (pt_cmpR op_ne (pe_ix ix_tup (pv 0) pe_int (fun _ _ => rfl)) (pe_ix ix_tup (pv 1) pe_int (fun _ _ => rfl)) (nomark _))))))) (pss_one (ps_ret pe_bl)) pss_nil)
  (pss_cons (ps_if (pt_cmpR op_eq (pe_ix ix_tup (pv 1) pe_int (fun _ _ => rfl)) pe_str (nomark _)) (pss_one (ps_ret (pe_and (pe_call G_l_whole (hr.mono (by decide)) (by rfl) T.g__law_whole kp_l_whole b_l_whole .nil pass0 (pa_cons (pe_ix ix_tup (pv 0) pe_int (fun _ _ => rfl)) pa_nil)) (pe_one (pe_cmpR op_eq (pe_ix ix_tup (pv 0) pe_int (fun _ _ => rfl)) (pe_ix ix_tup (pv 1) pe_int (fun _ _ => rfl)) (nomark _)))))) pss_nil)
  (pss_cons (ps_if (PW.pt (pw_or (pt_not (pt_val (pe_callB call_isi (by rfl) T.b_isinstance (by decide +kernel) (pa_cons (pe_ix ix_tup (pv 0) pe_int (fun _ _ => rfl)) (pa_cons (pe_bltn (by rfl) T.b_str (by decide +kernel) rfl) pa_nil))))) (pw_or1 (pt_cmpR op_ne (pe_ix ix_tup (pv 0) pe_int (fun _ _ => rfl)) (pe_ix ix_tup (pv 1) pe_int (fun _ _ => rfl)) (nomark _))))) (pss_one (ps_ret pe_bl)) pss_nil)
  (pss_cons (ps_if (pt_cmpR op_eq (pe_ix ix_tup (pv 1) pe_int (fun _ _ => rfl)) pe_str (nomark _)) (pss_one (ps_ret (pe_call G_l_pairs hr (by rfl) T.g__law_pairs kp_l_pairs b_l_pairs .nil pass0 (pa_cons (pe_ix ix_tup (pv 0) pe_int (fun _ _ => rfl)) (pa_cons (pe_ix ix_tup (pv 1) pe_int (fun _ _ => rfl)) pa_nil))))) pss_nil)
  (pss_one (ps_ret (pe_call G_l_same (hr.mono (by decide)) (by rfl) T.g__law_same kp_l_same b_l_same .nil pass0 (pa_cons (pe_ix ix_tup (pv 0) pe_int (fun _ _ => rfl)) (pa_cons (pe_ix ix_tup (pv 1) pe_int (fun _ _ => rfl)) pa_nil)))))))))

theorem ok_l_deeds_same {P : Program} {w : World} {K : PySem.W.Frag} {mg : Str → Option Value} {base : Heap} (T : Txt K mg) : OkD P w K mg base CX0 5 ("_law_deeds_same", none) ["_law_told", "_law_due"] (sp_l_deeds_same P w K) := by
  obtain ⟨fd, F⟩ := T.f_l_deeds_same
  obtain ⟨fd_l_deed_same, G_l_deed_same, b_l_deed_same, kp_l_deed_same⟩ := ok_l_deed_same (P := P) (w := w) (base := base) T
  refine ⟨fd, F.ok sc_l_deeds_same (fun vs H Q E h => len_l_deeds_same h) (fun cdv A outer s H vs Q E hr h => ?_), F.bindsN fun _ _ _ _ _ _ us hl => match us, hl with | [_, _], _ => rfl, F.kp⟩
  refine ⟨t_l_deeds_same P w K, ?_, rd_l_deeds_same h⟩
  exact PSs.nox (pss_cons (ps_if (PW.pt (pw_or (pt_not (pt_val (pe_callB call_isi (by rfl) T.b_isinstance (by decide +kernel) (pa_cons (pv 0) (pa_cons (pe_bltn (by rfl) T.b_list (by decide +kernel) rfl) pa_nil))))) (pw_or1 (pt_cmpR op_ne (pe_callB k_len (by rfl) T.b_len PySem.boot_len (pa_cons (pv 0) pa_nil)) (pe_callB k_len (by rfl) T.b_len PySem.boot_len (pa_cons (pv 1) pa_nil)) (nomark _))))) (pss_one (ps_ret pe_bl)) pss_nil)
  (pss_cons (ps_for PassesOwn.never rfl (pi_range1 rfl T.b_range (pa_cons (pe_callB k_len (by rfl) T.b_len PySem.boot_len (pa_cons (pv 1) pa_nil)) pa_nil)) (pg_name (i := 2) sc_l_deeds_same.nd rfl (Or.inl rfl)) (pss_one (ps_if (pt_not (pt_val (pe_call G_l_deed_same hr (by rfl) T.g__law_deed_same kp_l_deed_same b_l_deed_same .nil pass0 (pa_cons (pe_ix ix_list (pv 0) (pv 2) (fun _ _ => rfl)) (pa_cons (pe_ix ix_list (pv 1) (pv 2) (fun _ _ => rfl)) pa_nil))))) (pss_one (ps_ret pe_bl)) pss_nil)))
  (pss_one (ps_ret pe_bl))))

theorem ok_l_played {P : Program} {w : World} {K : PySem.W.Frag} {mg : Str → Option Value} {base : Heap} (T : Txt K mg) : OkD P w K mg base CX0 8 ("_law_played", none) ["_law_shelf", "_law_script", "_law_pool_here"] (sp_l_played P w K) := by
  obtain ⟨fd, F⟩ := T.f_l_played
  obtain ⟨fd_Shelf_begin, G_Shelf_begin, b_Shelf_begin, kp_Shelf_begin⟩ := ok_Shelf_begin (P := P) (w := w) (base := base) T
  obtain ⟨fd_l_tried, G_l_tried, b_l_tried, kp_l_tried⟩ := ok_l_tried (P := P) (w := w) (base := base) T
  obtain ⟨fd_l_mixed, G_l_mixed, b_l_mixed, kp_l_mixed⟩ := ok_l_mixed (P := P) (w := w) (base := base) T
  obtain ⟨fd_l_short, G_l_short, b_l_short, kp_l_short⟩ := ok_l_short (P := P) (w := w) (base := base) T
  obtain ⟨fd_Shelf_deeds, G_Shelf_deeds, b_Shelf_deeds, kp_Shelf_deeds⟩ := ok_Shelf_deeds (P := P) (w := w) (base := base) T
  obtain ⟨fd_l_deeds_same, G_l_deeds_same, b_l_deeds_same, kp_l_deeds_same⟩ := ok_l_deeds_same (P := P) (w := w) (base := base) T
  obtain ⟨fd_l_copied, G_l_copied, b_l_copied, kp_l_copied⟩ := ok_l_copied (P := P) (w := w) (base := base) T
  obtain ⟨fd_Shelf_order, G_Shelf_order, b_Shelf_order, kp_Shelf_order⟩ := ok_Shelf_order (P := P) (w := w) (base := base) T
  refine ⟨fd, F.ok sc_l_played (fun vs H Q E h => len_l_played h) (fun cdv A outer s H vs Q E hr h => ?_), F.bindsN fun _ _ _ _ _ _ us hl => match us, hl with | [_, _, _], _ => rfl, F.kp⟩
  refine ⟨t_l_played P w K, ?_, rd_l_played h⟩
  exact PSs.nox (pss_cons (ps_set (i := 3) sc_l_played.nd rfl (Or.inl rfl) (pe_lst (pa_cons (pe_lst pa_nil) pa_nil)))
  (pss_cons (ps_set (i := 4) sc_l_played.nd rfl (Or.inl rfl) (pe_lst pa_nil))
  (pss_cons (ps_set (i := 5) sc_l_played.nd rfl (Or.inl rfl) (pe_lst pa_nil))
  (pss_cons (ps_if (pt_cmpR op_ne (pe_meth0 (pv 0) T.c_Shelf T.m_Shelf_begin G_Shelf_begin (hr.mono (by decide)) b_Shelf_begin .nil pass0 ) pe_int (nomark _)) (pss_one (ps_ret pe_non)) pss_nil)
  (pss_cons (ps_for PassesOwn.never rfl (pi_enum (by rfl) T.b_enumerate (pa_cons (pv 2) pa_nil)) (pg_tup rfl (pgs_cons (pg_name (i := 6) sc_l_played.nd rfl (Or.inl rfl)) (pgs_cons (pg_name (i := 7) sc_l_played.nd rfl (Or.inl rfl)) pgs_nil))) (pss_one (ps_expr (pe_call G_l_tried (hr.mono (by decide)) (by rfl) T.g__law_tried kp_l_tried b_l_tried .nil pass0 (pa_cons (pv 0) (pa_cons (pv 3) (pa_cons (pv 4) (pa_cons (pv 5) (pa_cons pe_int (pa_cons (pv 7) (pa_cons pe_int (pa_cons (pv 6) pa_nil))))))))))))
  (pss_cons (ps_expr (pe_call G_l_tried (hr.mono (by decide)) (by rfl) T.g__law_tried kp_l_tried b_l_tried .nil pass0 (pa_cons (pv 0) (pa_cons (pv 3) (pa_cons (pv 4) (pa_cons (pv 5) (pa_cons pe_int (pa_cons pe_str (pa_cons pe_int (pa_cons pe_int pa_nil))))))))))
  (pss_cons (ps_for PassesOwn.never rfl (pi_enum (by rfl) T.b_enumerate (pa_cons (pv 1) pa_nil)) (pg_tup rfl (pgs_cons (pg_name (i := 8) sc_l_played.nd rfl (Or.inl rfl)) (pgs_cons (pg_name (i := 9) sc_l_played.nd rfl (Or.inl rfl)) pgs_nil))) (pss_cons (ps_set (i := 10) sc_l_played.nd rfl (Or.inl rfl) (pe_call G_l_mixed (hr.mono (by decide)) (by rfl) T.g__law_mixed kp_l_mixed b_l_mixed .nil pass0 (pa_cons (pe_op o_add (pv 9) (pe_op o_mul pe_int (pv 8))) pa_nil)))
  (pss_cons (ps_set (i := 11) sc_l_played.nd rfl (Or.inl rfl) (pe_op o_sub (pe_op o_sub (pe_callB k_len (by rfl) T.b_len PySem.boot_len (pa_cons (pv 3) pa_nil)) pe_int) (pe_op o_mod (pe_op o_div (pv 10) pe_int) (pe_callB (k_min2 rfl) (by rfl) T.b_min (by decide +kernel) (pa_cons (pe_callB k_len (by rfl) T.b_len PySem.boot_len (pa_cons (pv 3) pa_nil)) (pa_cons pe_int pa_nil))))))
  (pss_cons (ps_if (pt_cmpR op_eq (pe_op o_mod (pv 8) pe_int) pe_int (nomark _)) (pss_one (ps_set (i := 11) sc_l_played.nd rfl (Or.inl rfl) (pe_op o_mod (pe_op o_div (pv 10) pe_int) (pe_callB (k_min2 rfl) (by rfl) T.b_min (by decide +kernel) (pa_cons (pe_callB k_len (by rfl) T.b_len PySem.boot_len (pa_cons (pv 3) pa_nil)) (pa_cons pe_int pa_nil)))))) pss_nil)
  (pss_cons (ps_if (pt_cmpR op_eq (pe_op o_mod (pv 8) pe_int) pe_int (nomark _)) (pss_one (ps_set (i := 11) sc_l_played.nd rfl (Or.inl rfl) (pe_op o_mod (pe_op o_div (pv 10) pe_int) (pe_callB k_len (by rfl) T.b_len PySem.boot_len (pa_cons (pv 3) pa_nil))))) pss_nil)
  (pss_cons (ps_if (pt_cmpR op_eq (pe_op o_mod (pv 10) pe_int) pe_int (nomark _)) (pss_cons (ps_expr (pe_bm PySem.F.plainAttrs_list PySem.F.slot_list_append PySem.F.type_list_append mt_append (pv 3) (pa_cons (pe_lst pa_nil) pa_nil)))
  (pss_one (ps_if (pt_cmpR op_ne (pe_meth0 (pv 0) T.c_Shelf T.m_Shelf_begin G_Shelf_begin (hr.mono (by decide)) b_Shelf_begin .nil pass0 ) (pe_op o_sub (pe_callB k_len (by rfl) T.b_len PySem.boot_len (pa_cons (pv 3) pa_nil)) pe_int) (nomark _)) (pss_one (ps_ret pe_non)) pss_nil))) (pss_one (ps_if (PW.pt (pw_and (pt_cmpR op_eq (pe_op o_mod (pe_op o_div (pv 10) pe_int) pe_int) pe_int (nomark _)) (pw_and1 (pt_cmpR o_lt (pe_callB k_len (by rfl) T.b_len PySem.boot_len (pa_cons (pv 3) pa_nil)) pe_int (nomark _))))) (pss_one (ps_expr (pe_call G_l_short hr (by rfl) T.g__law_short kp_l_short b_l_short .nil pass0 (pa_cons (pv 0) (pa_cons (pv 3) (pa_cons (pv 4) (pa_cons (pv 5) (pa_cons (pv 2) (pa_cons (pe_op o_mod (pe_op o_div (pv 10) pe_int) pe_int) pa_nil))))))))) (pss_one (ps_expr (pe_call G_l_tried (hr.mono (by decide)) (by rfl) T.g__law_tried kp_l_tried b_l_tried .nil pass0 (pa_cons (pv 0) (pa_cons (pv 3) (pa_cons (pv 4) (pa_cons (pv 5) (pa_cons (pv 11) (pa_cons (pe_ix ix_list (pv 2) (pe_op o_mod (pe_op o_div (pv 10) pe_int) (pe_callB k_len (by rfl) T.b_len PySem.boot_len (pa_cons (pv 2) pa_nil))) (fun _ _ => rfl)) (pa_cons (pe_op o_div (pv 10) pe_int) (pa_cons (pv 9) pa_nil))))))))))))))
  (pss_cons (ps_if (pt_cmpR op_eq (pe_op o_mod (pe_op o_div (pv 10) pe_int) pe_int) pe_int (nomark _)) (pss_cons (ps_set (i := 12) sc_l_played.nd rfl (Or.inl rfl) (pe_meth (pv 0) T.c_Shelf T.m_Shelf_deeds G_Shelf_deeds (hr.mono (by decide)) b_Shelf_deeds .nil passL (pa_cons (pv 11) pa_nil)))
  (pss_cons (ps_if (pt_not (pt_val (pe_call G_l_deeds_same (hr.mono (by decide)) (by rfl) T.g__law_deeds_same kp_l_deeds_same b_l_deeds_same .nil pass0 (pa_cons (pv 12) (pa_cons (pe_ix ix_list (pv 3) (pv 11) (fun _ _ => rfl)) pa_nil))))) (pss_one (ps_ret pe_non)) pss_nil)
  (pss_one (ps_expr (pe_bm PySem.F.plainAttrs_list PySem.F.slot_list_append PySem.F.type_list_append mt_append (pv 5) (pa_cons (pe_tup (pa_cons (pv 12) (pa_cons (pe_lc (own := [("_law_deed", 14)]) (g := gName 14) rfl sc_l_played.nd (pi_list (pv 12)) (blkOk_by (own := [("_law_deed", 14)]) (N := ["_law_shelf", "_law_script", "_law_pool_here", "_law_told", "_law_kept", "_law_held", "_law_k", "_law_name", "_law_turn", "_law_cell", "_law_more", "_law_who", "_law_deeds", "_law_row", "_law_deed"]) (sc := defScope s_l_played) (by decide +kernel)) (fun _ _ _ _ _ => pg_name (i := 14) sc_l_played.nd rfl (Or.inl rfl)) (fun _ _ _ _ _ => pts_nil) (fun _ _ _ _ _ => (pe_call G_l_copied (hr.mono (by decide)) (by rfl) T.g__law_copied kp_l_copied b_l_copied .nil pass0 (pa_cons (pv 14) pa_nil)))) pa_nil))) pa_nil)))))) pss_nil)
  (pss_cons (ps_set (i := 13) sc_l_played.nd rfl (Or.inl rfl) (pe_meth0 (pv 0) T.c_Shelf T.m_Shelf_order G_Shelf_order (hr.mono (by decide)) b_Shelf_order .nil pass0 ))
  (pss_one (ps_expr (pe_bm PySem.F.plainAttrs_list PySem.F.slot_list_append PySem.F.type_list_append mt_append (pv 5) (pa_cons (pe_tup (pa_cons (pv 13) (pa_cons (pe_callTy k_list (by rfl) T.b_list (by decide +kernel) (pa_cons (pv 13) pa_nil)) pa_nil))) pa_nil))))))))))))
  (pss_one (ps_ret (pe_tup (pa_cons (pv 3) (pa_cons (pv 4) (pa_cons (pv 5) pa_nil)))))))))))))

theorem ok_l_changed {P : Program} {w : World} {K : PySem.W.Frag} {mg : Str → Option Value} {base : Heap} (T : Txt K mg) : OkD P w K mg base CX0 1 ("_law_changed", none) ["_law_rows"] (sp_l_changed P w K) := by
  obtain ⟨fd, F⟩ := T.f_l_changed
  refine ⟨fd, F.ok sc_l_changed (fun vs H Q E h => len_l_changed h) (fun cdv A outer s H vs Q E hr h => ?_), F.bindsN fun _ _ _ _ _ _ us hl => match us, hl with | [_], _ => rfl, F.kp⟩
  refine ⟨t_l_changed P w K, ?_, rd_l_changed h⟩
  exact PSs.nox (pss_cons (ps_for PassesOwn.never rfl (pi_list (pv 0)) (pg_name (i := 1) sc_l_changed.nd rfl (Or.inl rfl)) (pss_one (ps_if (pt_cmpR op_eq (pe_ix ix_tup (pv 1) pe_int (fun _ _ => rfl)) pe_str (nomark _)) (pss_one (ps_expr (pe_bm PySem.F.plainAttrs_list PySem.F.slot_list_append PySem.F.type_list_append mt_append (pe_ix ix_tup (pv 1) pe_int (fun _ _ => rfl)) (pa_cons (pe_tup (pa_cons pe_str (pa_cons pe_int pa_nil))) pa_nil)))) pss_nil)))
  (pss_one (ps_expr (pe_bm PySem.F.plainAttrs_list PySem.F.slot_list_append PySem.F.type_list_append mt_append (pv 0) (pa_cons (pe_tup (pa_cons pe_str (pa_cons pe_int pa_nil))) pa_nil)))))

theorem okF_law {P : Program} {w : World} {K : PySem.W.Frag} {mg : Str → Option Value} (T : Txt K mg) {fd : FuncData} (F : FunD K "law" "law" (defArgs s_law) (defBody s_law) (defScope s_law) [] [] (He.fAd K ("law", none)) fd) (base : Heap) : FnOk P w K mg base CX0 9 (He.fAd K ("law", none)) fd ["_law_script"] (sp_law P w K) := by
  obtain ⟨fd_l_pool, G_l_pool, b_l_pool, kp_l_pool⟩ := ok_l_pool (P := P) (w := w) (base := base) T
  obtain ⟨fd_l_cell_at, G_l_cell_at, b_l_cell_at, kp_l_cell_at⟩ := ok_l_cell_at (P := P) (w := w) (base := base) T
  obtain ⟨fd_Shelf_init, G_Shelf_init, b_Shelf_init, kp_Shelf_init⟩ := ok_Shelf_init (P := P) (w := w) (base := base) T
  obtain ⟨fd_l_played, G_l_played, b_l_played, kp_l_played⟩ := ok_l_played (P := P) (w := w) (base := base) T
  obtain ⟨fd_Shelf_order, G_Shelf_order, b_Shelf_order, kp_Shelf_order⟩ := ok_Shelf_order (P := P) (w := w) (base := base) T
  obtain ⟨fd_l_whole, G_l_whole, b_l_whole, kp_l_whole⟩ := ok_l_whole (P := P) (w := w) (base := base) T
  obtain ⟨fd_Shelf_deeds, G_Shelf_deeds, b_Shelf_deeds, kp_Shelf_deeds⟩ := ok_Shelf_deeds (P := P) (w := w) (base := base) T
  obtain ⟨fd_l_deeds_same, G_l_deeds_same, b_l_deeds_same, kp_l_deeds_same⟩ := ok_l_deeds_same (P := P) (w := w) (base := base) T
  obtain ⟨fd_l_changed, G_l_changed, b_l_changed, kp_l_changed⟩ := ok_l_changed (P := P) (w := w) (base := base) T
  refine F.ok sc_law (fun vs H Q E h => len_law h) (fun cdv A outer s H vs Q E hr h => ?_)
  refine ⟨t_law P w K, ?_, rd_law h⟩
  exact PSs.nox (pss_cons (ps_set (i := 1) sc_law.nd rfl (Or.inl rfl) (pe_call G_l_pool (hr.mono (by decide)) (by rfl) T.g__law_pool kp_l_pool b_l_pool .nil pass0 (pa_cons (pe_call G_l_cell_at (hr.mono (by decide)) (by rfl) T.g__law_cell_at kp_l_cell_at b_l_cell_at .nil pass0 (pa_cons (pv 0) (pa_cons pe_int pa_nil))) (pa_cons (pe_call G_l_cell_at (hr.mono (by decide)) (by rfl) T.g__law_cell_at kp_l_cell_at b_l_cell_at .nil pass0 (pa_cons (pv 0) (pa_cons pe_int pa_nil))) pa_nil))))
  (pss_cons (ps_set (i := 2) sc_law.nd rfl (Or.inl rfl) (pe_make0 T.mk_Shelf G_Shelf_init (hr.mono (by decide)) (by rfl) T.g_Shelf b_Shelf_init .nil pass0 ))
  (pss_cons (ps_set (i := 3) sc_law.nd rfl (Or.inl rfl) (pe_call G_l_played hr (by rfl) T.g__law_played kp_l_played b_l_played .nil pass0 (pa_cons (pv 2) (pa_cons (pe_slice sl_list (pv 0) (po_some pe_int) (po_some pe_int)) (pa_cons (pv 1) pa_nil)))))
  (pss_cons (ps_if (pt_cmpR o_isN (pv 3) pe_non (nomark _)) (pss_one (ps_ret pe_bl)) pss_nil)
  (pss_cons (ps_set (i := 4) sc_law.nd rfl (Or.inl rfl) (pe_meth0 (pv 2) T.c_Shelf T.m_Shelf_order G_Shelf_order (hr.mono (by decide)) b_Shelf_order .nil pass0 ))
  (pss_cons (ps_if (PW.pt (pw_or (pt_not (pt_val (pe_callB call_isi (by rfl) T.b_isinstance (by decide +kernel) (pa_cons (pv 4) (pa_cons (pe_bltn (by rfl) T.b_list (by decide +kernel) rfl) pa_nil))))) (pw_or1 (pt_cmpR (o_nnil hr.units) (pe_lc (own := [("_law_number", 9)]) (g := gName 9) rfl sc_law.nd (pi_list (pv 4)) (blkOk_by (own := [("_law_number", 9)]) (N := ["_law_script", "_law_pool_here", "_law_shelf", "_law_played_here", "_law_row", "_law_pair", "_law_due", "_law_k", "_law_told", "_law_number"]) (sc := defScope s_law) (by decide +kernel)) (fun _ _ _ _ _ => pg_name (i := 9) sc_law.nd rfl (Or.inl rfl)) (fun _ _ _ _ _ => (pts_one (pt_not (pt_val (pe_call G_l_whole (hr.mono (by decide)) (by rfl) T.g__law_whole kp_l_whole b_l_whole .nil pass0 (pa_cons (pv 9) pa_nil)))))) (fun _ _ _ _ _ => (pv 9))) (pe_lst pa_nil) (nomark _))))) (pss_one (ps_ret pe_bl)) pss_nil)
  (pss_cons (ps_if (pt_cmpR (op_neD hr.units) (pe_callB k_sortedI (by rfl) T.b_sorted (by decide +kernel) (pa_cons (pv 4) pa_nil)) (pe_callB k_sortedI (by rfl) T.b_sorted (by decide +kernel) (pa_cons (pe_ix ix_tup (pv 3) pe_int (fun _ _ => rfl)) pa_nil)) (nomark _)) (pss_one (ps_ret pe_bl)) pss_nil)
  (pss_cons (ps_expr (pe_bm PySem.F.plainAttrs_list PySem.F.slot_list_append PySem.F.type_list_append mt_append (pv 4) (pa_cons (pe_un o_neg pe_int) pa_nil)))
  (pss_cons (ps_if (PW.pt (pw_or (pt_cmpR (op_neD hr.units) (pe_callB k_sortedI (by rfl) T.b_sorted (by decide +kernel) (pa_cons (pe_meth0 (pv 2) T.c_Shelf T.m_Shelf_order G_Shelf_order (hr.mono (by decide)) b_Shelf_order .nil pass0 ) pa_nil)) (pe_callB k_sortedI (by rfl) T.b_sorted (by decide +kernel) (pa_cons (pe_ix ix_tup (pv 3) pe_int (fun _ _ => rfl)) pa_nil)) (nomark _)) (pw_or1 (pt_cmpR (o_nnil hr.units) (pe_lc (own := [("_law_pair", 5)]) (g := gName 5) rfl sc_law.nd (pi_list (pe_ix ix_tup (pv 3) pe_int (fun _ _ => rfl))) (blkOk_by (own := [("_law_pair", 5)]) (N := ["_law_script", "_law_pool_here", "_law_shelf", "_law_played_here", "_law_row", "_law_pair", "_law_due", "_law_k", "_law_told", "_law_number"]) (sc := defScope s_law) (by decide +kernel)) (fun _ _ _ _ _ => pg_name (i := 5) sc_law.nd rfl (Or.inl rfl)) (fun _ _ _ _ _ => (pts_one (pt_cmpR (op_neD hr.units) (pe_ix ix_tup (pv 5) pe_int (fun _ _ => rfl)) (pe_ix ix_tup (pv 5) pe_int (fun _ _ => rfl)) (nomark _)))) (fun _ _ _ _ _ => (pv 5))) (pe_lst pa_nil) (nomark _))))) (pss_one (ps_ret pe_bl)) pss_nil)
  (pss_cons (ps_for PassesOwn.never rfl (pi_list (pe_ix ix_tup (pv 3) pe_int (fun _ _ => rfl))) (pg_name (i := 5) sc_law.nd rfl (Or.inl rfl)) (pss_one (ps_expr (pe_bm PySem.F.plainAttrs_list PySem.F.slot_list_append PySem.F.type_list_append mt_append (pe_ix ix_tup (pv 5) pe_int (fun _ _ => rfl)) (pa_cons (pe_tup (pa_cons pe_str (pa_cons pe_int pa_nil))) pa_nil)))))
  (pss_cons (ps_set (i := 6) sc_law.nd rfl (Or.inl rfl) (pe_ix ix_tup (pv 3) pe_int (fun _ _ => rfl)))
  (pss_cons (ps_for PassesOwn.never rfl (pi_range1 rfl T.b_range (pa_cons (pe_callB k_len (by rfl) T.b_len PySem.boot_len (pa_cons (pv 6) pa_nil)) pa_nil)) (pg_name (i := 7) sc_law.nd rfl (Or.inl rfl)) (pss_cons (ps_set (i := 8) sc_law.nd rfl (Or.inl rfl) (pe_meth (pv 2) T.c_Shelf T.m_Shelf_deeds G_Shelf_deeds (hr.mono (by decide)) b_Shelf_deeds .nil passL (pa_cons (pv 7) pa_nil)))
  (pss_cons (ps_if (pt_not (pt_val (pe_call G_l_deeds_same (hr.mono (by decide)) (by rfl) T.g__law_deeds_same kp_l_deeds_same b_l_deeds_same .nil pass0 (pa_cons (pv 8) (pa_cons (pe_ix ix_list (pv 6) (pv 7) (fun _ _ => rfl)) pa_nil))))) (pss_one (ps_ret pe_bl)) pss_nil)
  (pss_cons (ps_expr (pe_call G_l_changed (hr.mono (by decide)) (by rfl) T.g__law_changed kp_l_changed b_l_changed .nil pass0 (pa_cons (pv 8) pa_nil)))
  (pss_one (ps_if (pt_not (pt_val (pe_call G_l_deeds_same (hr.mono (by decide)) (by rfl) T.g__law_deeds_same kp_l_deeds_same b_l_deeds_same .nil pass0 (pa_cons (pe_meth (pv 2) T.c_Shelf T.m_Shelf_deeds G_Shelf_deeds (hr.mono (by decide)) b_Shelf_deeds .nil passL (pa_cons (pv 7) pa_nil)) (pa_cons (pe_ix ix_list (pv 6) (pv 7) (fun _ _ => rfl)) pa_nil))))) (pss_one (ps_ret pe_bl)) pss_nil))))))
  (pss_one (ps_ret pe_bl))))))))))))))
def lvl : Nat := 9
def spLaw (K : PySem.W.Frag) : Sp := fun vs H Q _ => ∃ (a : Addr) (ns : List Int), vs = [.ref a] ∧ SqL K H a (ns.map V.int) ∧ ns.length ≤ 63 ∧ ∀ H', Q (.bl true) H'
theorem fin {P : Program} {w : World} {K : PySem.W.Frag} {mg : Str → Option Value} {fa0 : Addr} {h : Heap} (KX : K.In h) (G : h.Ns mainGlobals mg) (hmg : mg "law" = some (.ref fa0)) (c : He.SaysD fa fn K) :
    ∃ fd, (∀ (s : Shared) (u : Value), BindsTo s fd ⟨[u], []⟩ [("_law_script", u)]) ∧ ∀ base : Heap, K.In base → base.Ns mainGlobals mg → FnOk P w K mg base CX0 lvl fa0 fd ["_law_script"] (spLaw K) := by
  have T : Txt K mg := ⟨c, h, KX, G⟩
  have e := hmg.symm.trans T.g_law
  cases e
  obtain ⟨fd, F⟩ := T.f_law
  exact ⟨fd, fun s u => F.bindsA (ps := ["_law_script"]) (fun _ _ _ _ _ _ us hl => match us, hl with | [_], _ => rfl) s [u] rfl, fun base _ _ => okF_law T F base⟩
end
end Kr
set_option maxHeartbeats 0
open PySem PySem.W PySem.Calls PyProof.Rows
theorem PySem.Challenge.cw_keptrow_k10_deeds_told_holds : PySem.Challenge.rw_keptrow_k10_deeds_told.Holds := by
  w_on; o_law
  refine HandSHeadRun.head_any (r := OpenLaw.row PySem.Challenge.rw_keptrow_k10_deeds_told) (q := view (OpenLaw.row PySem.Challenge.rw_keptrow_k10_deeds_told).prog [44]) (H := Kr.hd_hk) (ob := Kr.hd_ob) (M := 14000) (loose := Kr.loose) (d := HandSHeadRun.topDef (OpenLaw.row PySem.Challenge.rw_keptrow_k10_deeds_told).prog 44) (kwd := []) Kr.hd_ob_eq
    (by kernel_rfl) (fun s => by kernel_rfl) Kr.hd_run (by kernel_rfl) (by kernel_rfl) (by kernel_rfl) (by rfl) (by first | assumption | decide +kernel) (by decide +kernel) ⟨rfl, rfl, rfl, rfl, rfl, by decide +kernel⟩ ?hw ?hc
  case hw => w_witness2
  case hc =>
    refine L2.walk_ofE (l := PySem.Challenge.rw_keptrow_k10_deeds_told) (n := 63) (k := Kr.lvl) (x := "_law_script") (CX := L2.CX0) rfl (by decide) (by kernel_rfl) ⟨rfl, by decide, by decide⟩ ?F (fun _ _ _ _ z => z)
    intro w mg fa h Y G hmg0
    obtain ⟨K, KX, c⟩ := Y
    have hmg : mg ("law" : PySem.Str) = some (.ref fa) := by
      have e : (HandSHeadRun.topDef (OpenLaw.row PySem.Challenge.rw_keptrow_k10_deeds_told).prog 44).name = ("law" : PySem.Str) := by kernel_rfl
      rw [← e]
      exact hmg0
    obtain ⟨fd, hb, hF⟩ := Kr.fin (w := w) KX G hmg c
    exact ⟨K, fd, Kr.spLaw K, KX, hb, fun H a ns hl _ hS => ⟨a, ns, rfl, hS, hl, fun _ => rfl⟩, hF⟩
