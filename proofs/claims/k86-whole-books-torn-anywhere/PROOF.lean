import PyProof.Rows.All
import Wide.All
import OpenK.AllK
import Wide.FinOn
import Lean
import HandS.ForMost
import HandS.ForExc
import HandS.Defaults
import HandS.Star
import HandS.Flow
import HandS.Conv
import HandS.Deep
import HandS.IsInst
import HandS.Codes
import HandS.TupAny
import HandS.Small
import HandS.MakeKwOnly
import HandS.More
import HandS.Sort
import HandS.Strs
import HandS.Walk
import HandS.Head0
import HandS.Head1
import HandS.Head2
import HandS.HeadEnd
import HandS.HeadHook1
import HandS.HeadHook2
import HandS.Style
import KE.KDictPairs
import PyProof.ReprRoads
import KE.KDictZip
import KE.KDictItemsList
import HandS.ListItems
import HandS.WideBits
import HandS.TupLe
import PySem.Challenge.RW_priceblind_k86_whole_books_torn_anywhere
set_option Elab.async false
set_option linter.all false
set_option maxRecDepth 100000
set_option maxHeartbeats 0
namespace PB
open PySem PySem.Spec PyProof.Rows L2
def top (i : Nat) : Stmt := PySem.Challenge.pw_priceblind_k86_whole_books_torn_anywhere.main.body.getD i (.Pass ⟨0, 0, 0, 0⟩)
abbrev s_is_integer : Stmt := top 8
abbrev s_is_within : Stmt := top 9
abbrev s_are_integers : Stmt := top 10
abbrev s_is_lot : Stmt := top 11
abbrev s_need_number : Stmt := top 12
abbrev s_need_track : Stmt := top 18
abbrev s_need_cell : Stmt := top 19
abbrev s_most_from : Stmt := top 20
abbrev s_are_values : Stmt := top 21
abbrev s_landed : Stmt := top 22
abbrev s_pairs_in : Stmt := top 23
abbrev s_need_disk : Stmt := top 25
abbrev s_chosen : Stmt := top 26
abbrev s_track_of : Stmt := top 34
abbrev s_row_of : Stmt := top 35
abbrev s_record_in : Stmt := top 36
abbrev s_rows_in : Stmt := top 37
abbrev s_counting : Stmt := top 38
abbrev s_without_whole : Stmt := top 39
abbrev s_is_record : Stmt := top 40
abbrev s_are_records : Stmt := top 41
abbrev s_meant : Stmt := top 42
abbrev s_law_nook : Stmt := top 45
abbrev s_law_reach : Stmt := top 46
abbrev s_law_pick : Stmt := top 47
abbrev s_law_words : Stmt := top 48
abbrev s_law_record : Stmt := top 49
abbrev s_law_row : Stmt := top 50
abbrev s_law_track : Stmt := top 51
abbrev s_law_read : Stmt := top 52
abbrev s_law_lot : Stmt := top 53
abbrev s_law_done : Stmt := top 54
abbrev s_law_stands : Stmt := top 55
abbrev s_law : Stmt := top 56
abbrev sD_init : Stmt := inClass (top 24) 0
abbrev sD_spend : Stmt := inClass (top 24) 1
abbrev sD_settle : Stmt := inClass (top 24) 2
abbrev sD_write : Stmt := inClass (top 24) 3
abbrev sD_flush : Stmt := inClass (top 24) 4
abbrev sD_read : Stmt := inClass (top 24) 5
abbrev sD_kept : Stmt := inClass (top 24) 6
abbrev sD_waiting : Stmt := inClass (top 24) 7
abbrev sD_cut : Stmt := inClass (top 24) 8
abbrev sD_fuse : Stmt := inClass (top 24) 9
abbrev sD_no_fuse : Stmt := inClass (top 24) 10
abbrev sB_init : Stmt := inClass (top 43) 0
abbrev sB_records : Stmt := inClass (top 43) 1
abbrev sB_write : Stmt := inClass (top 43) 2
abbrev sB_add : Stmt := inClass (top 43) 3
abbrev sB_next : Stmt := inClass (top 43) 4
abbrev sB_turn : Stmt := inClass (top 43) 5
abbrev
    FnP (K : PySem.W.Frag) (x : Str) (st : Stmt) (f : Addr) (fd : FuncData) : Prop := FunD K x x (defArgs st) (defBody st) (defScope st) [] [] f fd
abbrev MtP (K : PySem.W.Frag) (x q : Str) (st : Stmt) (f : Addr) (fd : FuncData) : Prop := FunD K x q (defArgs st) (defBody st) (defScope st) [] [] f fd
end PB

namespace PB
open PySem PySem.Spec PyProof.Rows L2
def d_is_integer : He.DefD := ⟨("is_integer", none), "is_integer", "is_integer", defArgs s_is_integer, defBody s_is_integer, defScope s_is_integer, [], []⟩
def d_is_within : He.DefD := ⟨("is_within", none), "is_within", "is_within", defArgs s_is_within, defBody s_is_within, defScope s_is_within, [], []⟩
def d_are_integers : He.DefD := ⟨("are_integers", none), "are_integers", "are_integers", defArgs s_are_integers, defBody s_are_integers, defScope s_are_integers, [], []⟩
def d_is_lot : He.DefD := ⟨("is_lot", none), "is_lot", "is_lot", defArgs s_is_lot, defBody s_is_lot, defScope s_is_lot, [], []⟩
def d_need_number : He.DefD := ⟨("need_number", none), "need_number", "need_number", defArgs s_need_number, defBody s_need_number, defScope s_need_number, [], []⟩
def d_need_track : He.DefD := ⟨("need_track", none), "need_track", "need_track", defArgs s_need_track, defBody s_need_track, defScope s_need_track, [], []⟩
def d_need_cell : He.DefD := ⟨("need_cell", none), "need_cell", "need_cell", defArgs s_need_cell, defBody s_need_cell, defScope s_need_cell, [], []⟩
def d_most_from : He.DefD := ⟨("most_from", none), "most_from", "most_from", defArgs s_most_from, defBody s_most_from, defScope s_most_from, [], []⟩
def d_are_values : He.DefD := ⟨("are_values", none), "are_values", "are_values", defArgs s_are_values, defBody s_are_values, defScope s_are_values, [], []⟩
def d_landed : He.DefD := ⟨("landed", none), "landed", "landed", defArgs s_landed, defBody s_landed, defScope s_landed, [], []⟩
def d_pairs_in : He.DefD := ⟨("pairs_in", none), "pairs_in", "pairs_in", defArgs s_pairs_in, defBody s_pairs_in, defScope s_pairs_in, [], []⟩
def d_need_disk : He.DefD := ⟨("need_disk", none), "need_disk", "need_disk", defArgs s_need_disk, defBody s_need_disk, defScope s_need_disk, [.str "disk"], []⟩
def d_chosen : He.DefD := ⟨("chosen", none), "chosen", "chosen", defArgs s_chosen, defBody s_chosen, defScope s_chosen, [], []⟩
def d_track_of : He.DefD := ⟨("track_of", none), "track_of", "track_of", defArgs s_track_of, defBody s_track_of, defScope s_track_of, [], []⟩
def d_row_of : He.DefD := ⟨("row_of", none), "row_of", "row_of", defArgs s_row_of, defBody s_row_of, defScope s_row_of, [], []⟩
def d_record_in : He.DefD := ⟨("record_in", none), "record_in", "record_in", defArgs s_record_in, defBody s_record_in, defScope s_record_in, [], []⟩
def d_rows_in : He.DefD := ⟨("rows_in", none), "rows_in", "rows_in", defArgs s_rows_in, defBody s_rows_in, defScope s_rows_in, [], []⟩
def d_counting : He.DefD := ⟨("counting", none), "counting", "counting", defArgs s_counting, defBody s_counting, defScope s_counting, [], []⟩
def d_without_whole : He.DefD := ⟨("without_whole", none), "without_whole", "without_whole", defArgs s_without_whole, defBody s_without_whole, defScope s_without_whole, [], []⟩
def d_is_record : He.DefD := ⟨("is_record", none), "is_record", "is_record", defArgs s_is_record, defBody s_is_record, defScope s_is_record, [], []⟩
def d_are_records : He.DefD := ⟨("are_records", none), "are_records", "are_records", defArgs s_are_records, defBody s_are_records, defScope s_are_records, [], []⟩
def d_meant : He.DefD := ⟨("meant", none), "meant", "meant", defArgs s_meant, defBody s_meant, defScope s_meant, [], []⟩
def d_law_nook : He.DefD := ⟨("_law_nook", none), "_law_nook", "_law_nook", defArgs s_law_nook, defBody s_law_nook, defScope s_law_nook, [], []⟩
def d_law_reach : He.DefD := ⟨("_law_reach", none), "_law_reach", "_law_reach", defArgs s_law_reach, defBody s_law_reach, defScope s_law_reach, [], []⟩
def d_law_pick : He.DefD := ⟨("_law_pick", none), "_law_pick", "_law_pick", defArgs s_law_pick, defBody s_law_pick, defScope s_law_pick, [], []⟩
def d_law_words : He.DefD := ⟨("_law_words", none), "_law_words", "_law_words", defArgs s_law_words, defBody s_law_words, defScope s_law_words, [], []⟩
def d_law_record : He.DefD := ⟨("_law_record", none), "_law_record", "_law_record", defArgs s_law_record, defBody s_law_record, defScope s_law_record, [], []⟩
def d_law_row : He.DefD := ⟨("_law_row", none), "_law_row", "_law_row", defArgs s_law_row, defBody s_law_row, defScope s_law_row, [], []⟩
def d_law_track : He.DefD := ⟨("_law_track", none), "_law_track", "_law_track", defArgs s_law_track, defBody s_law_track, defScope s_law_track, [], []⟩
def d_law_read : He.DefD := ⟨("_law_read", none), "_law_read", "_law_read", defArgs s_law_read, defBody s_law_read, defScope s_law_read, [], []⟩
def d_law_lot : He.DefD := ⟨("_law_lot", none), "_law_lot", "_law_lot", defArgs s_law_lot, defBody s_law_lot, defScope s_law_lot, [], []⟩
def d_law_done : He.DefD := ⟨("_law_done", none), "_law_done", "_law_done", defArgs s_law_done, defBody s_law_done, defScope s_law_done, [], []⟩
def d_law_stands : He.DefD := ⟨("_law_stands", none), "_law_stands", "_law_stands", defArgs s_law_stands, defBody s_law_stands, defScope s_law_stands, [], []⟩
def d_law : He.DefD := ⟨("law", none), "law", "law", defArgs s_law, defBody s_law, defScope s_law, [], []⟩
def dD_init : He.DefD := ⟨("Disk", some "__init__"), "__init__", "Disk.__init__", defArgs sD_init, defBody sD_init, defScope sD_init, [], []⟩
def dD_spend : He.DefD := ⟨("Disk", some "spend"), "spend", "Disk.spend", defArgs sD_spend, defBody sD_spend, defScope sD_spend, [], []⟩
def dD_settle : He.DefD := ⟨("Disk", some "settle"), "settle", "Disk.settle", defArgs sD_settle, defBody sD_settle, defScope sD_settle, [], []⟩
def dD_write : He.DefD := ⟨("Disk", some "write"), "write", "Disk.write", defArgs sD_write, defBody sD_write, defScope sD_write, [], []⟩
def dD_flush : He.DefD := ⟨("Disk", some "flush"), "flush", "Disk.flush", defArgs sD_flush, defBody sD_flush, defScope sD_flush, [], []⟩
def dD_read : He.DefD := ⟨("Disk", some "read"), "read", "Disk.read", defArgs sD_read, defBody sD_read, defScope sD_read, [], []⟩
def dD_kept : He.DefD := ⟨("Disk", some "kept"), "kept", "Disk.kept", defArgs sD_kept, defBody sD_kept, defScope sD_kept, [], []⟩
def dD_waiting : He.DefD := ⟨("Disk", some "waiting"), "waiting", "Disk.waiting", defArgs sD_waiting, defBody sD_waiting, defScope sD_waiting, [], []⟩
def dD_cut : He.DefD := ⟨("Disk", some "cut"), "cut", "Disk.cut", defArgs sD_cut, defBody sD_cut, defScope sD_cut, [], []⟩
def dD_fuse : He.DefD := ⟨("Disk", some "fuse"), "fuse", "Disk.fuse", defArgs sD_fuse, defBody sD_fuse, defScope sD_fuse, [], []⟩
def dD_no_fuse : He.DefD := ⟨("Disk", some "no_fuse"), "no_fuse", "Disk.no_fuse", defArgs sD_no_fuse, defBody sD_no_fuse, defScope sD_no_fuse, [], []⟩
def dB_init : He.DefD := ⟨("Book", some "__init__"), "__init__", "Book.__init__", defArgs sB_init, defBody sB_init, defScope sB_init, [], []⟩
def dB_records : He.DefD := ⟨("Book", some "records"), "records", "Book.records", defArgs sB_records, defBody sB_records, defScope sB_records, [], []⟩
def dB_write : He.DefD := ⟨("Book", some "_write"), "_write", "Book._write", defArgs sB_write, defBody sB_write, defScope sB_write, [], []⟩
def dB_add : He.DefD := ⟨("Book", some "add"), "add", "Book.add", defArgs sB_add, defBody sB_add, defScope sB_add, [], []⟩
def dB_next : He.DefD := ⟨("Book", some "_next"), "_next", "Book._next", defArgs sB_next, defBody sB_next, defScope sB_next, [], []⟩
def dB_turn : He.DefD := ⟨("Book", some "turn"), "turn", "Book.turn", defArgs sB_turn, defBody sB_turn, defScope sB_turn, [], []⟩
def fn : List He.DefD := [d_is_integer, d_is_within, d_are_integers, d_is_lot, d_need_number, d_need_track, d_need_cell, d_most_from, d_are_values, d_landed, d_pairs_in, d_need_disk, d_chosen, d_track_of, d_row_of, d_record_in, d_rows_in, d_counting, d_without_whole, d_is_record, d_are_records, d_meant, d_law_nook, d_law_reach, d_law_pick, d_law_words, d_law_record, d_law_row, d_law_track, d_law_read, d_law_lot, d_law_done, d_law_stands, d_law, dD_init, dD_spend, dD_settle, dD_write, dD_flush, dD_read, dD_kept, dD_waiting, dD_cut, dD_fuse, dD_no_fuse, dB_init, dB_records, dB_write, dB_add, dB_next, dB_turn]
def fa0 : List He.Fa := [.glo "is_integer", .glo "is_within", .glo "are_integers", .glo "is_lot", .glo "need_number", .glo "need_track", .glo "need_cell", .glo "most_from", .glo "are_values", .glo "landed", .glo "pairs_in", .glo "need_disk", .glo "chosen", .glo "track_of", .glo "row_of", .glo "record_in", .glo "rows_in", .glo "counting", .glo "without_whole", .glo "is_record", .glo "are_records", .glo "meant", .glo "_law_nook", .glo "_law_reach", .glo "_law_pick", .glo "_law_words", .glo "_law_record", .glo "_law_row", .glo "_law_track", .glo "_law_read"]
def fa1 : List He.Fa := [.glo "_law_lot", .glo "_law_done", .glo "_law_stands", .glo "law", .glo "Disk", .glo "Book", .glo "Out", .glo "WORDS", .glo "NUMBERS", .glo "WHOLE", .glo "BOOK_TRACKS", .free "isinstance", .free "int", .free "bool", .free "list", .free "tuple", .free "all", .free "len", .free "zip", .free "min", .free "sorted", .free "dict", .free "enumerate", .free "range", .free "max", .free "abs", .free "repr", .free "str", .int "TRACKS" 3, .int "LAST_CELL" 10000000]
def fa2 : List He.Fa := [.int "MOST_IN_CELL" 9223372036854775807, .int "MOST_CELLS" 4096, .int "CELLS" 6, .int "MOST_NUMBERS" 4, .cls "Disk", .cls "Book", .noat "Disk" "cells", .noat "Disk" "strokes", .noat "Disk" "fresh", .noat "Disk" "left", .noat "Book" "disk", .noat "Book" "generation", .noat "Book" "added", .noat "Book" "_told", .noat "Book" "_rows", .meth "Disk" "__init__", .meth "Disk" "spend", .meth "Disk" "settle", .meth "Disk" "write", .meth "Disk" "flush", .meth "Disk" "read", .meth "Disk" "kept", .meth "Disk" "waiting", .meth "Disk" "cut", .meth "Disk" "fuse", .meth "Disk" "no_fuse", .meth "Book" "__init__", .meth "Book" "records", .meth "Book" "_write", .meth "Book" "add"]
def fa3 : List He.Fa := [.meth "Book" "_next", .meth "Book" "turn", .mkr "Disk", .mkr "Book", .exc "Out", .exm "Out" "Out" true]
def fa : List He.Fa := fa0 ++ fa1 ++ fa2 ++ fa3
/-- the module's name x is a tuple of these, without a dict of its own -/
def tupN (K : PySem.W.Frag) (x : Str) (vs : List He.Dv) : Bool := match K.lookup (He.ga K x) with
  | some ⟨.type c, none, .seq its _, _⟩ => decide (c = "tuple") && (decide (its.size ≤ sizeLine) && He.relAll (vs.map (He.Dv.v K)) its.toList)
  | _ => false
theorem tupN_ok {K : PySem.W.Frag} {x : Str} {vs : List He.Dv} (h : tupN K x vs = true) : (∀ H : Hp, SqT K H (He.ga K x) (vs.map (He.Dv.v K))) ∧ ∃ o, K.lookup (He.ga K x) = some o ∧ o.cls = .type "tuple" ∧ o.dict = none := by
  unfold tupN at h
  cases q : K.lookup (He.ga K x) with
  | none =>
    rw [q] at h
    cases h
  | some o =>
    obtain ⟨oc, od, dt, osl⟩ := o
    rw [q] at h
    cases oc with
    | type c =>
      cases od with
      | some d =>
          cases dt <;> cases h
      | none =>
        cases dt with
        | seq its n =>
          obtain ⟨h1, h2⟩ := He.ba (show (decide (c = "tuple") && (decide (its.size ≤ sizeLine) && He.relAll (vs.map (He.Dv.v K)) its.toList)) = true from h)
          obtain ⟨h3, h4⟩ := He.ba h2
          exact ⟨fun H => .inr ⟨_, its, n, q, congrArg Value.type (of_decide_eq_true h1), rfl, of_decide_eq_true h3, He.relAll_ok h4⟩, _, rfl, congrArg Value.type (of_decide_eq_true h1), rfl⟩
        | _ => cases h
    | _ =>
        cases od <;> cases dt <;> cases h
/-- what isinstance(x, C) of an instance of C wants -/
def insB (K : PySem.W.Frag) (C : Addr) : Bool := decide (PySem.W.findIn K (.ref C) "__class__" = some (some (.builtin "object.__class__"))) && (decide (PySem.W.specialIn K (.builtin "object.__class__") "__get__" = some (some (.builtin "getset_descriptor.__get__"))) &&
  (decide (PySem.W.takesIn K (.builtin "object.__class__") = some true) && (decide (PySem.W.mroIn K C (.type "object") = some true) && decide (PySem.W.kitOne K (.ref C) (.ref C) = some true))))
theorem insB_ok {K : PySem.W.Frag} {C : Addr} (c : Cls K C) (h : insB K C = true) : C8.InsC K C := by
  obtain ⟨h1, h⟩ := He.ba h
  obtain ⟨h2, h⟩ := He.ba h
  obtain ⟨h3, h⟩ := He.ba h
  obtain ⟨h4, h5⟩ := He.ba h
  exact ⟨c, of_decide_eq_true h1, of_decide_eq_true h2, of_decide_eq_true h3, of_decide_eq_true h4, of_decide_eq_true h5⟩
def tabs (K : PySem.W.Frag) : Bool := tupN K "WORDS" [.str "put", .str "drop", .str "copied", .str "view", .str "letgo", .str "start", .str "region", .str "thing", .str "named", .str "seen", .str "viewed", .str "whole"] && (tupN K "NUMBERS" [.int 2, .int 1, .int 0, .int 1, .int 1, .int 3, .int 1, .int 4, .int 2, .int 1, .int 3, .int 0] && (tupN K "WHOLE" [.str "whole"] && tupN K "BOOK_TRACKS" [.int 1, .int 2] && insB K (He.ga K "Disk")))
abbrev R : PySem.W.OpenRow := PySem.W.OpenLaw.row PySem.Challenge.rw_priceblind_k86_whole_books_torn_anywhere
/-- what the head is to say: the facts, the defs, the tables -/
def SaysP (K : PySem.W.Frag) : Prop := He.SaysD fa fn K ∧ tabs K = true
abbrev AlP : Type := He.AlD × Bool
def obsP (n : Nat) (g : Addr → Option Obj) : AlP := (He.obsD fa fn (He.frG g (He.asD g n)), tabs (He.frG g (He.asD g n)))
def hk : PySem.W.Hook where
  α := AlP
  obs := fun s => obsP 5 s.heap.get?
  val := fun _ => (He.valD fn, true)
  says := fun _ h => ∃ K : PySem.W.Frag, K.In h ∧ SaysP K
  of := fun _ _ e => ⟨_, He.frG_in, congrArg Prod.fst e, congrArg Prod.snd e⟩
  keeps
      := fun _ _ _ ⟨K, hK, c⟩ k => ⟨K, PySem.W.Frag.In.keeps hK k, c⟩
def ob (s : PySem.W.SharedT) : AlP := obsP 5 (HandSHeadRun.getT s)
theorem ob_eq (s : PySem.W.SharedT) : ob s = hk.obs s.abs := by
  have e : HandSHeadRun.getT s = s.abs.heap.get? := funext (HandSHeadRun.getT_eq s)
  show obsP 5 (HandSHeadRun.getT s) = obsP 5 s.abs.heap.get?
  rw [e]
def loose1 : List Str := ["StripError", "BadNumber", "BadDisk", "BadDeeds", "Misfit", "Out", "is_integer", "is_within", "are_integers", "is_lot", "need_number", "TRACKS", "LAST_CELL", "MOST_IN_CELL", "MOST_CELLS", "need_track", "need_cell", "most_from", "are_values", "landed", "pairs_in", "Disk", "need_disk", "chosen", "WORDS", "NUMBERS"]
def loose2 : List Str := ["WHOLE", "CELLS", "MOST_NUMBERS", "BOOK_TRACKS", "track_of", "row_of", "record_in", "rows_in", "counting", "without_whole", "is_record", "are_records", "meant", "Book", "_law_nook", "_law_reach", "_law_pick", "_law_words", "_law_record", "_law_row", "_law_track", "_law_read", "_law_lot", "_law_done", "_law_stands"]
def loose : List Str := loose1 ++ loose2
theorem run (w : World) : HandSHeadRun.RunEq R (PySem.W.view R.prog [56]) hk ob 6000 loose w := by
  intro os
  kernel_rfl
end PB

namespace PB
open PySem PySem.Spec PyProof.Rows L2
/-! ### a store to a field as one target of several -/
def gFld (K : PySem.W.Frag) (ta : TE) (f : Str) : TG := fun v σ H Q => ta σ H fun x H2 => ∃ a C dx fs, x = .ref a ∧ H2 a = some (.ins C dx fs) ∧ Cls K C ∧ NoAttr K C f ∧ fs.length < 1000 ∧ Q σ (upd H2 a (.ins C dx (putF f v fs)))
section
variable {X : Cx} {o : Expr} {f : Str} {pos : Pos} {ta : TE}
theorem pg_fld (ho : PE X o ta) : PG X (.Attribute o f pos) (gFld X.K ta f) := by
  refine
      ⟨fun pins s σ H v u Q I r h => ?_⟩
  rw [assign_Attribute]
  refine wpAny_bind (wpAny_holding (thn (ho.run pins s σ H _ I h) fun ov s1 ⟨x, H1, I1, rx, a, C, dx, fs, ex, ea, c, n, l, q⟩ => ?_))
  subst ex
  obtain
      rfl : ov = Value.ref a := rx
  refine wpAny_bind (wpAny_standAt (wpAny_bind (wpAny_holding (setattr_ok I1 ea c n l r fun s3 I3 => ?_))))
  exact wpAny_release ⟨σ, _, I3, q⟩
end
/-! ### calls by keywords alone -/
section
variable {X : Cx} {CX : CXT} {k : Nat} {f C : Addr} {fd : FuncData} {ps ks : List Str} {sp : Sp} {E : XK} {x m : Str} {p pos apos : Pos} {o : Expr} {kws : List Keyword} {ta : TE} {tk : TA} {g : List Value → List Value → List Value} {gV : List V → List V → List V}
/-- f(k = v, ..) -/
theorem pe_callK0 (F : FnOk X.prog X.w X.K X.mg X.base CX k f fd ps sp) (hr : Room k X.A) (hg : Gl X x) (hm : X.mg x = some (.ref f)) (hk : PySem.W.keepIn X.K (.ref f) = true) (hb : KBinds X.K fd ps ks g gV) (hx : Passes CX X E) (hkw : PK X kws tk)
    (hall
        : (backToKw pos (keywordEach kws X.env)).all (·.1.isSome) = true := by rfl) (hks : (backToKw pos (keywordEach kws X.env)).filterMap (·.1) = ks := by rfl) (hdb : (x == ("__debug__" : Str)) = false := by decide)
    (hpl
        : ((backTo pos (starEach [] X.env)).any (·.1) || (backToKw pos (keywordEach kws X.env)).any (·.1.isNone)) = false := by rfl) :
    PE X (.Call (.Name x p) [] kws pos) (tCallK sp gV E tNil tk) := by
  refine
      ⟨fun pins s σ H Q I h => ?_⟩
  refine
      wpAny_Call_Name_kw (ld_glob I hg hm ?_ hdb)
  refine PySem.W.callWith_KW0 (h₀ := X.base) I.ok.mod.kin hk hall ?_ hpl
  refine thn (hkw.run pos pins s σ H _ I h) fun ws s2 ⟨zs, H2, I2, rz, q2⟩ => ⟨I2.kIn, ?_⟩
  rw [hks]
  exact run_fnk (us := []) (vs := []) F hr hb hx I2 .nil rz q2
/-- the callee runs, keywords, the wish at the caller's slots -/
theorem run_fnkS {ES : L2.St → XK} {pins : List (Addr × Obj)} {σ : L2.St} {H : Hp} {s : Shared} {Q : VK} {us ws : List Value} {vs zs : List V} (F : FnOk X.prog X.w X.K X.mg X.base CX k f fd ps sp) (hr : Room k X.A) (hb : KBinds X.K fd ps ks g gV) (hx : PassesAt CX X σ (ES σ))
    (I : Inv X pins σ H s) (r : Vals vs us) (rz : Vals zs ws) (h : sp (gV vs zs) H Q (ES σ)) : wpAny (model X.prog X.w) X.A (call (.ref f) us (ks.zip ws)) (EP X pins σ Q) X.xe s := by
  have r2 := hb.rel r rz
  have
      hl : (g us ws).length = ps.length := by rw [← r2.length]; exact F.len _ _ _ _ h
  refine wpAny_call (codeAny_mono (F.run X.A X.stack s H ⟨us, ks.zip ws⟩ (g us ws) (gV vs zs) Q (ES σ) hr I.env0 (hb.to s us ws I.kIn hl) r2 h) fun r s' hq => ?_)
  cases r with
  | error e =>
      exact hx pins H s e s' I hq
  | ok fl =>
    cases fl with
    | ret u => exact I.after hq
    | next => exact False.elim hq
    | brk => exact False.elim hq
    | cont => exact False.elim hq
/-- o.m(k = v, ..), the wish at the caller's slots -/
def tMethKS (C : Addr) (m : Str) (sp : Sp) (gV : List V → List V → List V) (E : L2.St → XK) (ta : TE) (tk : TA) : TE := fun σ H Q => ta σ H fun x H1 => ∃ a dx fs, x = .ref a ∧ H1 a = some (.ins C dx fs) ∧ fs.lookup m = none ∧
  tk σ H1 fun zs H2 => sp (gV [x] zs) H2 Q (E σ)
theorem pe_methKS {ES : L2.St → XK} {pl : Sem Bool} (he : PE X o ta) (c : Cls X.K C) (hm : Meth X.K C m f) (F : FnOk X.prog X.w X.K X.mg X.base CX k f fd ps sp) (hr : Room k X.A) (hb : KBinds X.K fd ps ks g gV) (hx : ∀ σ, PassesAt CX X σ (ES σ)) (hkw : PK X kws tk)
    (hall : (backToKw pos (keywordEach kws X.env)).all (·.1.isSome) = true := by rfl) (hks : (backToKw pos (keywordEach kws X.env)).filterMap (·.1) = ks := by rfl)
    (hpl : ((backTo pos (starEach [] X.env)).any (·.1) || (backToKw pos (keywordEach kws X.env)).any (·.1.isNone)) = false := by rfl)
    (ht : eval (.Call (.Attribute o m apos) [] kws pos) X.env = (do
      let ov ← eval o X.env
      standAt apos.atName
      let
          (f, first) ← holding [ov] (getMethod ov m pl)
      callWith pos f first (backTo pos (starEach [] X.env)) (backToKw pos (keywordEach kws X.env))) := by rfl) :
    PE X (.Call (.Attribute o m apos) [] kws pos) (tMethKS C m sp gV ES ta tk) := by
  refine
      ⟨fun pins s σ H Q I h => ?_⟩
  refine
      PySem.W.methodCall_KW (pl := pl) (thn (he.run pins s σ H _ I h) fun u s1 ⟨x, H1, I1, rx, a, dx, fs, ex, ea, l, q⟩ => ?_) ht
  subst ex
  obtain
      rfl : u = Value.ref a := rx
  refine
      getmeth_ok I1 ea c hm l ?_
  refine PySem.W.callWith_KW0 (first := [.ref a]) (h₀ := X.base) I.ok.mod.kin hm.kp hall ?_ hpl
  refine
      thn (hkw.run pos pins s1 σ H1 _ I1 q) fun ws s2 ⟨zs, H2, I2, rz, q2⟩ => ⟨I2.kIn, ?_⟩
  rw [hks]
  exact run_fnkS (us := [.ref a]) (vs := [.ref a]) F hr hb (hx σ) I2 (.cons rfl .nil) rz q2
end
/-! ### raise X(), X an own exception class without own __init__ -/
section
variable
    {X : Cx} {C : Addr} {bmB : List Value} {B newId initId : String}
theorem pmk_own0 {x : Str} {p pos : Pos} (F : ExcBaseFacts B newId initId bmB) (q : PySem.W.excIn X.K C bmB newId = true) (gC : X.mg x = some (.ref C))
    (kC : PySem.W.keepIn X.K (.ref C) = true) (r : Raises X (.ref C)) (hg : Gl X x) (hdb : (x == ("__debug__" : Str)) = false := by decide) :
    PMk X (.Call (.Name x p) [] [] pos) (fun _ H Q => Q (.ref C) none H) := by
  intro pins s σ H Q I h
  refine
      wpAny_Call_Name_kw (ld_glob I hg gC ?_ hdb)
  refine PySem.W.callWith_K0 I.kIn kC ?_
  show wpAny _ _ (call (.ref C) []) _ _ _
  obtain ⟨bm, N, nm, qn, bs, hdct, sn, sub, ab, col, dd, k0, k1, k2, k3, k5, mN, hC, hN, hni, T⟩ := exc_obj I.kIn q
  obtain ⟨hp, gs, dr, tk, os⟩ := s
  refine wpAny_call_exc_subT F T hC hN hni (fun h' e hm => ?_) (by show 0 ≤ sizeLine; exact Nat.zero_le _)
  exact mk_of I hm r h (I.hok.gone hm.new)
end
end PB

namespace PB
open PySem PySem.Spec PySem.W PySem.Calls PyProof.V PyProof.Rows
theorem zip_no_len : typeLookup (.type "zip") "__len__" = pure none := am_miss_of_fast (by decide +kernel)
theorem zip_no_hint : typeLookup (.type "zip") "__length_hint__" = pure none := am_miss_of_fast (by decide +kernel)
/-- the zip at z has given i pairs -/
structure ZSt (h : Heap) (z TI TO i1 i2 l1 l2 S : Addr) (xs ys : Array Value) (i : Nat) : Prop where
  ti : IsPair h TI (.ref i1) (.ref i2)
  h1 : h.IsListIter i1 l1 i
  h2 : h.IsListIter i2 l2 i
  hl1 : h.IsList l1 xs
  hl2 : h.IsList l2 ys
  zz : (IsZip h z TI TO .none ∧ ∃ a b, IsPair h TO a b) ∨ ∃ T f oT, IsZipHeld h z TI TO T f ∧ h.get? T = some oT ∧ T ≠ z ∧ T ≠ i1 ∧ T ≠ i2 ∧ T ≠ S
/-- the addresses as hold the pairs, in order -/
structure ZG (xs ys : Array Value) (lo : Addr) (h : Heap) (as : List Addr) : Prop where
  rise : as.Pairwise (· < ·)
  above : ∀ a ∈ as, lo < a
  pairs : ∀ (j : Nat) (a : Addr), as[j]? = some a → ∃ x y, xs[j]? = some x ∧ ys[j]? = some y ∧ h.get? a = some { cls := .type "tuple", data := .seq #[x, y] }
theorem ZG.there {xs ys : Array Value} {lo : Addr} {h : Heap} {as : List Addr} (g : ZG xs ys lo h as) {a : Addr} (ha : a ∈ as) : a < h.objs.size := by
  obtain
      ⟨j, hj⟩ := List.mem_iff_getElem?.mp ha
  obtain ⟨_, _, _, _, e⟩ := g.pairs j a hj
  exact Heap.lt_size e
theorem ZG.low {xs ys : Array Value} {lo lo' : Addr} {h : Heap} {as : List Addr} (g : ZG xs ys lo h as) (hl : lo' ≤ lo) : ZG xs ys lo' h as := ⟨g.rise, fun a ha => Nat.lt_of_le_of_lt hl (g.above a ha), g.pairs⟩
/-- what the walk of a zip may change -/
def ZCh (z TO i1 i2 : Addr) (b : Addr) : Prop := b = z ∨ b = TO ∨ b = i1 ∨ b = i2
theorem ZSt.keep {h h' : Heap} {z TI TO i1 i2 l1 l2 S : Addr} {xs ys : Array Value} {i : Nat} (st : ZSt h z TI TO i1 i2 l1 l2 S xs ys i) (k : ∀ b o, b ≠ S → h.get? b = some o → h'.get? b = some o)
    (n : S ≠ z ∧ S ≠ TI ∧ S ≠ TO ∧ S ≠ i1 ∧ S ≠ i2 ∧ S ≠ l1 ∧ S ≠ l2) : ZSt h' z TI TO i1 i2 l1 l2 S xs ys i := by
  obtain ⟨n1, n2, n3, n4, n5, n6, n7⟩ := n
  refine ⟨k _ _ n2.symm st.ti, st.h1.at fun o e => k _ o n4.symm e, st.h2.at fun o e => k _ o n5.symm e, st.hl1.at fun o e => k _ o n6.symm e, st.hl2.at fun o e => k _ o n7.symm e, ?_⟩
  rcases st.zz with ⟨hz, a, b, hTO⟩ | ⟨T, f, oT, hz, hT, r1, r2, r3, r4⟩
  · exact .inl ⟨k _ _ n1.symm hz, a, b, k _ _ n3.symm hTO⟩
  · exact .inr ⟨T, f, oT, k _ _ n1.symm hz, k _ _ r4 hT, r1, r2, r3, r4⟩
section
variable {prog : Program} {w : World} {A : Around} {E : Value → Shared → Prop} {s : Shared} {z TI TO i1 i2 l1 l2 S : Addr} {xs ys : Array Value}
theorem zl_item {i : Nat} {x y : Value} {Q : Option Value → Shared → Prop} (D : ZipApart z TI TO i1 i2 l1 l2) (st : ZSt s.heap z TI TO i1 i2 l1 l2 S xs ys i) (hS : S < s.heap.objs.size) (ex : xs[i]? = some x) (ey : ys[i]? = some y)
    (hQ : ∀ h', ZSt h' z TI TO i1 i2 l1 l2 S xs ys (i + 1) → h'.get? s.heap.objs.size = some { cls := .type "tuple", data := .seq #[x, y] } → h'.objs.size = s.heap.objs.size + 1 →
      (∀ b o, ¬ ZCh z TO i1 i2 b → s.heap.get? b = some o → h'.get? b = some o) → Q (some (.ref s.heap.objs.size)) { s with heap := h' }) : wpAny (model prog w) A (pyNext (.ref z)) Q E s := by
  have
      lt : ∀ {c o}, s.heap.get? c = some o → s.heap.objs.size ≠ c := fun e => Nat.ne_of_gt (Heap.lt_size e)
  have n1 : s.heap.objs.size ≠ i1 := let ⟨_, e, _⟩ := st.h1; lt e
  have n2 : s.heap.objs.size ≠ i2 := let ⟨_, e, _⟩ := st.h2; lt e
  rcases st.zz with ⟨hz, a, b, hTO⟩ | ⟨T, f, oT, hz, hT, r1, r2, r3, r4⟩
  · refine wpAny_pyNext_zip_item D hz st.ti hTO st.h1 st.h2 st.hl1 st.hl2 ex ey fun h' a1 a2 a3 a4 a5 a6 hk => hQ h' ⟨hk _ _ D.TIz D.TITO D.TIi1 D.TIi2 st.ti, a3, a4, st.hl1.at fun o e => hk _ o D.l1z D.l1TO D.l1i1 D.l1i2 e, st.hl2.at fun o e => hk _ o D.l2z D.l2TO D.l2i1 D.l2i2 e,
      .inr ⟨s.heap.objs.size, false, _, a1, a5, lt hz, n1, n2, Nat.ne_of_gt hS⟩⟩ a5 a6 fun c o hc e => ?_
    exact hk c o (fun x => hc (.inl x)) (fun x => hc (.inr (.inl x))) (fun x => hc (.inr (.inr (.inl x)))) (fun x => hc (.inr (.inr (.inr x)))) e
  · refine wpAny_pyNext_zip_item_held D hz hT st.ti st.h1 st.h2 st.hl1 st.hl2 ex ey fun h' a1 a3 a4 a5 a6 hk => hQ h' ⟨hk _ _ D.TIz D.TIi1 D.TIi2 st.ti, a3, a4, st.hl1.at fun o e => hk _ o D.l1z D.l1i1 D.l1i2 e, st.hl2.at fun o e => hk _ o D.l2z D.l2i1 D.l2i2 e,
      .inr ⟨T, true, oT, a1, hk _ _ r1 r2 r3 hT, r1, r2, r3, r4⟩⟩ a5 a6 fun c o hc e => ?_
    exact hk c o (fun x => hc (.inl x)) (fun x => hc (.inr (.inr (.inl x)))) (fun x => hc (.inr (.inr (.inr x)))) e
theorem zl_done {i : Nat} {Q : Option Value → Shared → Prop} (hh : A.handled = none) (D : ZipApart z TI TO i1 i2 l1 l2) (st : ZSt s.heap z TI TO i1 i2 l1 l2 S xs ys i) (hend : xs[i]? = none ∨ ys[i]? = none)
    (hQ : ∀ h', (∀ b o, ¬ ZCh z TO i1 i2 b → s.heap.get? b = some o → h'.get? b = some o) → Q none { s with heap := h' }) : wpAny (model prog w) A (pyNext (.ref z)) Q E s := by
  rcases st.zz with ⟨hz, a, b, hTO⟩ | ⟨T, f, oT, hz, hT, r1, r2, r3, r4⟩
  · exact wpAny_pyNext_zip_end hh D hz st.ti hTO st.h1 st.h2 st.hl1 st.hl2 hend fun h' hk => hQ h' fun c o hc e => hk c o (fun x => hc (.inl x)) (fun x => hc (.inr (.inl x))) (fun x => hc (.inr (.inr (.inl x)))) (fun x => hc (.inr (.inr (.inr x)))) e
  · exact wpAny_pyNext_zip_end_held hh D hz hT st.ti st.h1 st.h2 st.hl1 st.hl2 hend fun h' hk => hQ h' fun c o hc e => hk c o (fun x => hc (.inl x)) (fun x => hc (.inr (.inr (.inl x)))) (fun x => hc (.inr (.inr (.inr x)))) e
theorem zl_hint {Q : Bool → Shared → Prop} (hT : s.TypeIs (.ref z) "zip") (h : Q true s) : wpAny (model prog w) A (Builtin.List.listLengthHint (.ref z)) Q E s := by
  unfold
      Builtin.List.listLengthHint
  refine wpAny_bind (wpAny_specialOf hT zip_no_len ?_)
  refine wpAny_bind (wpAny_specialOf hT zip_no_hint ?_)
  exact wpAny_pure h
end
section
variable {prog : Program} {w : World} {A : Around} {E : Value → Shared → Prop} {s : Shared} {z TI TO i1 i2 l1 l2 S : Addr} {xs ys : Array Value} {R : Result → Shared → Prop}
theorem zl_loop (hh : A.handled = none) (D : ZipApart z TI TO i1 i2 l1 l2) (nS : S ≠ z ∧ S ≠ TI ∧ S ≠ TO ∧ S ≠ i1 ∧ S ≠ i2 ∧ S ≠ l1 ∧ S ≠ l2) (n : Nat) (hn : n ≤ sizeLine) (hx : xs.size = n) (hy : ys.size = n) (res : Value) {h₁ : Heap} {lo : Addr}
    (hlo : z ≤ lo ∧ TO ≤ lo ∧ i1 ≤ lo ∧ i2 ≤ lo ∧ S ≤ lo)
    (hR : ∀ h' tk acc c as, (∀ b o, b ≠ S → ¬ ZCh z TO i1 i2 b → h₁.get? b = some o → h'.get? b = some o) → h'.get? S = some { cls := .type "list", dict := none, data := .seq acc c, slots := #[] } → as.length = n → ZG xs ys lo h' as →
      acc.toList
          = as.map Value.ref → R (.ok (.ret res)) { s with heap := h', toks := tk }) :
    ∀ (k i : Nat) (h : Heap) (tk c : Nat) (acc : Array Value) (as : List Addr), n - i = k → i ≤ n → ZSt h z TI TO i1 i2 l1 l2 S xs ys i → (∀ b o, b ≠ S → ¬ ZCh z TO i1 i2 b → h₁.get? b = some o → h.get? b = some o) →
      h.get? S = some { cls := .type "list", dict := none, data := .seq acc c, slots := #[] } → acc.toList = as.map Value.ref → as.length = i → ZG xs ys lo h as → lo < h.objs.size →
      codeAny (model prog w) A (.builtin "list.extend.loop" ⟨[.ref S, .ref z, res], []⟩) R { s with heap := h, toks := tk } := by
  obtain ⟨n1, n2, n3, n4, n5, n6, n7⟩ := nS
  obtain ⟨q1, q2, q3, q4, q5⟩ := hlo
  have nch : ¬ ZCh z TO i1 i2 S := fun q => q.elim n1 fun q => q.elim n3 fun q => q.elim n4 n5
  have hich : ∀ a, lo < a → ¬ ZCh z TO i1 i2 a := fun a ha q => q.elim (fun e => Nat.lt_irrefl _ (Nat.lt_of_le_of_lt q1 (e ▸ ha))) fun q => q.elim (fun e => Nat.lt_irrefl _ (Nat.lt_of_le_of_lt q2 (e ▸ ha))) fun q =>
    q.elim (fun e => Nat.lt_irrefl _ (Nat.lt_of_le_of_lt q3 (e ▸ ha))) fun e => Nat.lt_irrefl _ (Nat.lt_of_le_of_lt q4 (e ▸ ha))
  have hiS : ∀ a, lo < a → a ≠ S := fun a ha e => Nat.lt_irrefl _ (Nat.lt_of_le_of_lt q5 (e ▸ ha))
  intro k
  induction k with
  | zero =>
    intro i h tk c acc as hk hi hst hkeep hS hacc hal hG hIs
    have hin : i = n := by omega
    refine
        codeAny_builtin PySem.F.entry_extend_loop ?_
    rw
        [Around.under_plainId PySem.F.plain_extend_loop _]
    show wpAny _ A.in1 (pyNext (.ref z) >>= _) _ _ _
    refine wpAny_bind (zl_done (s := { s with heap := h, toks := tk }) (A := A.in1) hh D hst (.inl (Array.getElem?_eq_none (by omega))) fun h' he => ?_)
    refine wpAny_pure (hR h' tk acc c as (fun b o h1 h2 e => he b o h2 (hkeep b o h1 h2 e)) (he S _ nch hS) (by omega) ⟨hG.rise, hG.above, fun j a hj => ?_⟩ hacc)
    obtain ⟨x, y, e1, e2, e3⟩ := hG.pairs j a hj
    exact ⟨x, y, e1, e2, he a _ (hich a (hG.above a (List.mem_of_getElem? hj))) e3⟩
  | succ k ih =>
    intro i h tk c acc as hk hi hst hkeep hS hacc hal hG hIs
    have hlt : i < n := by omega
    have
        hsz : acc.size = i := by rw [← Array.length_toList, hacc, List.length_map, hal]
    have ex := Array.getElem?_eq_getElem (show i < xs.size by omega)
    have ey := Array.getElem?_eq_getElem (show i < ys.size by omega)
    refine
        codeAny_builtin PySem.F.entry_extend_loop ?_
    rw
        [Around.under_plainId PySem.F.plain_extend_loop _]
    show wpAny _ A.in1 (pyNext (.ref z) >>= _) _ _ _
    refine wpAny_bind (zl_item (s := { s with heap := h, toks := tk }) D hst (Heap.lt_size hS) ex ey fun h' hst' ht hz hkp => ?_)
    dsimp only at ht hz hkp ⊢
    have hS' := hkp S _ nch hS
    have
        up : ∀ b o, b ≠ S → h'.get? b = some o → (h'.update S (Obj.mapSeq (·.push (Value.ref h.objs.size)))).get? b = some o := fun b o hb e => (Heap.get?_update_other _ _ (Ne.symm hb)).trans e
    have
        hSl : S < h.objs.size := Heap.lt_size hS
    show
        wpAny _ A.in1 (updateSeq S (·.push (Value.ref h.objs.size)) >>= _) _ _ _
    refine wpAny_bind ?_
    refine wpAny_updateSeq hS' rfl (wpAny_pure ⟨plainId_quiet PySem.F.plain_extend_loop _, ih (i + 1) _ tk _ (acc.push (Value.ref h.objs.size)) (as ++ [h.objs.size]) (by omega) hlt (hst'.keep up ⟨n1, n2, n3, n4, n5, n6, n7⟩)
      (fun
          b o h1 h2 e => up b o h1 (hkp b o h2 (hkeep b o h1 h2 e))) (Heap.get?_update_self _ hS' rfl) (by rw [Array.toList_push, hacc, List.map_append]; rfl) (by rw [List.length_append, hal]; rfl) ⟨?_, ?_, ?_⟩ ?_⟩) (by rw [hsz]; omega) (by show (acc.push (Value.ref h.objs.size)).size ≤ sizeLine + 1; rw [Array.size_push, hsz]; omega)
    · refine
          List.pairwise_append.mpr ⟨hG.rise, List.pairwise_singleton _ _, fun a ha b hb => ?_⟩
      rw [List.mem_singleton.mp hb]
      exact hG.there ha
    · intro a ha
      rcases
          List.mem_append.mp ha with ha | ha
      · exact hG.above a ha
      · rw
            [List.mem_singleton.mp ha]; exact hIs
    · intro j b hj
      rcases
          Nat.lt_trichotomy j as.length with h1 | h1 | h1
      · rw
            [List.getElem?_append_left h1] at hj
        obtain ⟨x, y, e1, e2, e3⟩ := hG.pairs j b hj
        have
            hb := hG.above b (List.mem_of_getElem? hj)
        exact ⟨x, y, e1, e2, up b _ (hiS b hb) (hkp b _ (hich b hb) e3)⟩
      · subst h1
        have
            hb : h.objs.size = b := by simpa using hj
        subst hb
        refine ⟨_, _, ?_, ?_, up _ _ (Nat.ne_of_gt hSl) ht⟩
        · rw [hal]; exact ex
        · rw [hal]; exact ey
      · have
            hnone : (as ++ [h.objs.size])[j]? = none := List.getElem?_eq_none (by rw [List.length_append, List.length_singleton]; omega)
        rw [hnone] at hj; cases hj
    · have
          e : (h'.update S (Obj.mapSeq (·.push (Value.ref h.objs.size)))).get? h.objs.size = _ := up _ _ (Nat.ne_of_gt hSl) ht
      exact
          Nat.lt_trans hIs (Heap.lt_size e)
/-- list's own part, behind the zip -/
theorem zl_extend (hh : A.handled = none) (D : ZipApart z TI TO i1 i2 l1 l2) (nS : S ≠ z ∧ S ≠ TI ∧ S ≠ TO ∧ S ≠ i1 ∧ S ≠ i2 ∧ S ≠ l1 ∧ S ≠ l2) (n : Nat) (hn : n ≤ sizeLine) (hx : xs.size = n) (hy : ys.size = n) (res : Value) (c₀ : Nat)
    (hz : IsZip s.heap z TI TO .none) (st : ZSt s.heap z TI TO i1 i2 l1 l2 S xs ys 0) (hS : s.heap.get? S = some { cls := .type "list", data := .seq #[] c₀ }) (hlo : z ≤ S ∧ TO ≤ S ∧ i1 ≤ S ∧ i2 ≤ S)
    (hR : ∀ h' tk acc c as, (∀ b o, b ≠ S → ¬ ZCh z TO i1 i2 b → s.heap.get? b = some o → h'.get? b = some o) → h'.get? S = some { cls := .type "list", dict := none, data := .seq acc c, slots := #[] } → as.length = n → ZG xs ys S h' as →
      acc.toList
          = as.map Value.ref → R (.ok (.ret res)) { s with heap := h', toks := tk }) :
    wpAny (model prog w) A.in1 (Builtin.List.listExtendWith (.ref S) (.ref z) res)
      (fun
          fin s' => match fin with | .done f => R (.ok f) s' | .again c' => c'.quiet = true ∧ codeAny (model prog w) A c' R s') (fun e s' => R (.error e) s') s := by
  have
      hT : s.TypeIs (.ref z) "zip" := ⟨_, hz, rfl⟩
  unfold
      Builtin.List.listExtendWith
  refine wpAny_bind (wpAny_typeOf (T := "zip") hT ?_)
  have h1 : Builtin.List.listSameRef (.ref S) (.ref z) = false := by simp [Builtin.List.listSameRef, nS.1]
  have h2 : (Value.type "zip" == Value.type "list") = false := by decide
  have h3 : (Value.type "zip" == Value.type "tuple") = false := by decide
  simp only
      [h1, h2, h3, Bool.or_false, Bool.false_eq_true, if_false]
  refine wpAny_bind (wpAny_pyIter_zip hz ?_)
  refine wpAny_bind (wpAny_holding (zl_hint hT ?_))
  refine wpAny_ite_split (fun _ => ?_) (fun q => absurd rfl q)
  refine
      wpAny_bind (wpAny_rule ?_)
  refine wpAny_bind ?_
  show
      wpAny _ _ (updateSeq S (·.push .none) >>= fun _ => updateSeq S (·.pop)) _ _ _
  refine
      wpAny_bind (wpAny_updateSeq hS rfl ?_)
  have
      hS₂ := Heap.get?_update_self (Obj.mapSeq (·.push Value.none)) hS rfl
  refine
      wpAny_updateSeq (hz := by seq_fits) hS₂ rfl ?_
  have
      hS₃ := Heap.get?_update_self (Obj.mapSeq (·.pop)) hS₂ rfl
  have oth : ∀ b o, b ≠ S → s.heap.get? b = some o → ((s.heap.update S (Obj.mapSeq (·.push Value.none))).update S (Obj.mapSeq (·.pop))).get? b = some o := fun b o hb e => (Heap.get?_update_other _ _ (Ne.symm hb)).trans ((Heap.get?_update_other _ _ (Ne.symm hb)).trans e)
  refine wpAny_pure ⟨plainId_quiet PySem.F.plain_extend_loop _, ?_⟩
  exact zl_loop (s := s) (h₁ := s.heap) (lo := S) hh D nS n hn hx hy res ⟨hlo.1, hlo.2.1, hlo.2.2.1, hlo.2.2.2, Nat.le_refl _⟩ hR n 0 _ _ _ #[] [] (Nat.sub_zero _) (Nat.zero_le _) (st.keep oth nS) (fun b o hb _ e => oth b o hb e) hS₃ rfl rfl
    ⟨List.Pairwise.nil, (fun _ ha => nomatch ha), (fun j a hj => by simp at hj)⟩ (Heap.lt_size hS₃)
theorem zl_init (hh : A.handled = none) (D : ZipApart z TI TO i1 i2 l1 l2) (nS : S ≠ z ∧ S ≠ TI ∧ S ≠ TO ∧ S ≠ i1 ∧ S ≠ i2 ∧ S ≠ l1 ∧ S ≠ l2) (n : Nat) (hn : n ≤ sizeLine) (hx : xs.size = n) (hy : ys.size = n)
    (hz : IsZip s.heap z TI TO .none) (st : ZSt s.heap z TI TO i1 i2 l1 l2 S xs ys 0) (hS : s.heap.get? S = some { cls := .type "list", data := .seq #[] }) (hlo : z ≤ S ∧ TO ≤ S ∧ i1 ≤ S ∧ i2 ≤ S)
    (hR : ∀ h' tk acc c as, (∀ b o, b ≠ S → ¬ ZCh z TO i1 i2 b → s.heap.get? b = some o → h'.get? b = some o) → h'.get? S = some { cls := .type "list", dict := none, data := .seq acc c, slots := #[] } → as.length = n → ZG xs ys S h' as →
      acc.toList = as.map Value.ref → R (.ok (.ret .none)) { s with heap := h', toks := tk }) :
    wpAny (model prog w) A.in1 (Builtin.«list.__init__» ⟨[.ref S, .ref z], []⟩)
      (fun
          fin s' => match fin with | .done f => R (.ok f) s' | .again c' => c'.quiet = true ∧ codeAny (model prog w) A c' R s') (fun e s' => R (.error e) s') s := by
  show wpAny _ _ (do let old ← Builtin.List.listItems (.ref S); Builtin.List.listUpdate (.ref S) (fun _ => #[]); letGo old.toList.reverse; Builtin.List.listExtendWith (.ref S) (.ref z) .none) _ _ s
  refine wpAny_bind ?_
  unfold Builtin.List.listItems
  refine
      wpAny_bind (wpAny_seqItems hS rfl (wpAny_pure ?_))
  show wpAny _ _ (updateSeq S (fun _ => #[]) >>= fun _ => letGo (#[] : Array Value).toList.reverse >>= fun _ => Builtin.List.listExtendWith (.ref S) (.ref z) .none) _ _ s
  refine
      wpAny_bind (wpAny_updateSeq hS rfl ?_)
  have
      hS₂ := Heap.get?_update_self (Obj.mapSeq (fun _ => (#[] : Array Value))) hS rfl
  have
      oth : ∀ b o, b ≠ S → s.heap.get? b = some o → (s.heap.update S (Obj.mapSeq (fun _ => (#[] : Array Value)))).get? b = some o :=
    fun
        b o hb e => (Heap.get?_update_other _ _ (Ne.symm hb)).trans e
  refine
      wpAny_bind (wpAny_letGo ?_)
  exact zl_extend hh D nS n hn hx hy .none _ (oth _ _ nS.1.symm hz) (st.keep oth nS) hS₂ hlo fun h' tk acc c as hk => hR h' tk acc c as fun b o hb hc e => hk b o hb hc (oth b o hb e)
/-- list(z), z a new zip of two lists of one length -/
theorem zl_call {Q : Value → Shared → Prop} (hh : A.handled = none) (D : ZipApart z TI TO i1 i2 l1 l2) (n : Nat) (hn : n ≤ sizeLine) (hx : xs.size = n) (hy : ys.size = n)
    (hz : IsZip s.heap z TI TO .none) (hTI : IsPair s.heap TI (.ref i1) (.ref i2)) (hTO : ∃ a b, IsPair s.heap TO a b) (h1 : s.heap.IsListIter i1 l1 0) (h2 : s.heap.IsListIter i2 l2 0) (hl1 : s.heap.IsList l1 xs) (hl2 : s.heap.IsList l2 ys)
    (hQ : ∀ h' tk acc c as, (∀ b o, ¬ ZCh z TO i1 i2 b → s.heap.get? b = some o → h'.get? b = some o) → h'.get? s.heap.objs.size = some { cls := .type "list", dict := none, data := .seq acc c, slots := #[] } → as.length = n → ZG xs ys s.heap.objs.size h' as →
      acc.toList
          = as.map Value.ref → Q (.ref s.heap.objs.size) { s with heap := h', toks := tk }) :
    wpAny (model prog w) A (call (.type "list") [.ref z]) Q E s := by
  refine
      callType_codes (Q₁ := fun obj s₁ => obj = .ref s.heap.objs.size ∧ s₁ = { s with heap := s.heap.push { cls := .type "list", data := .seq #[] } }) PySem.F.called_list (PySem.F.typeCall_list_1 _) PySem.F.entry_list_init
    (code_list_new
        _ ⟨rfl, rfl⟩) fun obj s₁ h₁ => ?_
  obtain ⟨rfl, rfl⟩ := h₁
  have
      hS : (s.heap.push { cls := .type "list", data := .seq #[] }).get? s.heap.objs.size = some { cls := .type "list", data := .seq #[] } := Heap.get?_push_size _ rfl
  have up : ∀ b o, s.heap.get? b = some o → (s.heap.push { cls := .type "list", data := .seq #[] }).get? b = some o := fun b o e => Heap.get?_push_of_some _ e
  have lz := Heap.lt_size hz
  have lTI := Heap.lt_size hTI
  obtain ⟨ta, tb, hTO⟩ := hTO
  have lTO := Heap.lt_size hTO
  have li1 : i1 < s.heap.objs.size := let ⟨_, e, _⟩ := h1; Heap.lt_size e
  have li2 : i2 < s.heap.objs.size := let ⟨_, e, _⟩ := h2; Heap.lt_size e
  have ll1 : l1 < s.heap.objs.size := let ⟨_, e, _⟩ := hl1; Heap.lt_size e
  have ll2 : l2 < s.heap.objs.size := let ⟨_, e, _⟩ := hl2; Heap.lt_size e
  refine ⟨⟨_, hS, rfl⟩, PySem.F.args_list_init_2 _ _, zl_init (A := A.in1) hh D ⟨Nat.ne_of_gt lz, Nat.ne_of_gt lTI, Nat.ne_of_gt lTO, Nat.ne_of_gt li1, Nat.ne_of_gt li2, Nat.ne_of_gt ll1, Nat.ne_of_gt ll2⟩ n hn hx hy (up _ _ hz)
    ⟨up _ _ hTI, h1.at fun o e => up _ o e, h2.at fun o e => up _ o e, hl1.at fun o e => up _ o e, hl2.at fun o e => up _ o e, .inl ⟨up _ _ hz, ta, tb, up _ _ hTO⟩⟩ hS ⟨Nat.le_of_lt lz, Nat.le_of_lt lTO, Nat.le_of_lt li1, Nat.le_of_lt li2⟩ (fun h' tk acc c as hk hS' hl hG hacc => ?_)⟩
  exact ⟨rfl, hQ h' tk acc c as (fun b o hc e => hk b o (Nat.ne_of_lt (Heap.lt_size e)) hc (up b o e)) hS' hl hG hacc⟩
end
end PB

namespace PB
open PySem PySem.Spec PyProof.Rows L2
/-! ### list(zip(a, b)) -/
/-- pairs tracked at their addresses -/
def putP : Hp → List Addr → List (V × V) → Hp
  | H, a :: as, p :: ps => putP (upd H a (.tup [p.1, p.2])) as ps
  | H, _, _ => H
theorem putP_off {b : Addr} : ∀ (as : List Addr) (ps : List (V × V)) (H : Hp), b ∉ as → putP H as ps b = H b
  | [], _, _, _ => rfl
  | _ :: _, [], _, _ => rfl
  | a :: as, p :: ps, H, h => by
    show putP (upd H a (.tup [p.1, p.2])) as ps b = H b
    rw [putP_off as ps _ (fun z => h (List.mem_cons_of_mem _ z)), upd_ne (fun z => h (by rw [z]; exact List.mem_cons_self))]
theorem putP_at : ∀ (as : List Addr) (ps : List (V × V)) (H : Hp), as.length = ps.length → as.Nodup → Paired (fun (t : Addr) (p : V × V) => putP H as ps t = some (.tup [p.1, p.2])) as ps
  | [], [], _, _, _ => .nil
  | [], _ :: _, _, h, _ =>
      by cases h
  | _ :: _, [], _, h, _ =>
      by cases h
  | a :: as, p :: ps, H, h, hn => by
    have
        hn' := List.nodup_cons.mp hn
    have ih := putP_at as ps (upd H a (.tup [p.1, p.2])) (Nat.succ.inj h) hn'.2
    refine .cons ?_ ih
    show putP (upd H a (.tup [p.1, p.2])) as ps a = some (.tup [p.1, p.2])
    rw [putP_off as ps _ hn'.1, upd_same]
theorem zip_at {α β : Type} : ∀ {xs : List α} {ys : List β} {j : Nat} {p : α × β}, (xs.zip ys)[j]? = some p → xs[j]? = some p.1 ∧ ys[j]? = some p.2
  | [], _, j, p, h => by simp at h
  | _ :: _, [], j, p, h => by simp at h
  | x :: xs, y :: ys, 0, p, h => by
    have e : (x, y) = p := Option.some.inj h
    subst e
    exact ⟨rfl, rfl⟩
  | x :: xs, y :: ys, j + 1, p, h => zip_at (xs := xs) (ys := ys) (j := j) h
def rLZ (K : PySem.W.Frag) : List V → Hp → VK → Prop := fun vs H Q => ∃ (a b : Addr) (xs ys : List V), vs = [.ref a, .ref b] ∧ SqL K H a xs ∧ SqL K H b ys ∧ xs.length = ys.length ∧
  ∀ (H' : Hp) (p : Addr) (ts : List Addr), Same H H' → H p = none → (∀ t ∈ ts, H t = none) → p ∉ ts → H' p = some (.lst (ts.map V.ref)) → Paired (fun (t : Addr) (q : V × V) => H' t = some (.tup [q.1, q.2])) ts (xs.zip ys) → Q (.ref p) H'
section
variable {X : Cx} {p p2 pos pos2 : Pos} {e e2 : Expr} {ta : TA}
theorem zip_laid {pins : List (Addr × Obj)} {σ : L2.St} {H : Hp} {s : Shared} {h' : Heap} {tk : Nat} {ps : List (V × V)} {xs ys : Array Value} {acc : Array Value} {c : Nat} {as : List Addr} {S : Addr} (I : Inv X pins σ H s) (hz : ps.length ≤ sizeLine) (hS0 : s.heap.objs.size ≤ S)
    (rel : ∀ (j : Nat) (p : V × V), ps[j]? = some p → ∃ x y, xs[j]? = some x ∧ ys[j]? = some y ∧ RelV p.1 x ∧ RelV p.2 y)
    (hk : ∀ b o, s.heap.get? b = some o → h'.get? b = some o) (hS : h'.get? S = some { cls := .type "list", dict := none, data := .seq acc c, slots := #[] }) (hl : as.length = ps.length) (hG : ZG xs ys S h' as) (hacc : acc.toList = as.map Value.ref) :
    ∃ H' : Hp, Same H H' ∧ H S = none ∧ (∀ t ∈ as, H t = none) ∧ S ∉ as ∧ H' S = some (.lst (as.map V.ref)) ∧ Paired (fun (t : Addr) (q : V × V) => H' t = some (.tup [q.1, q.2])) as ps ∧ Inv X pins σ H' { s with heap := h', toks := tk } := by
  have hSn : S ∉ as := fun z => Nat.lt_irrefl _ (hG.above _ z)
  have
      nd : as.Nodup := List.Pairwise.imp (fun {a b} (h : a < b) => Nat.ne_of_lt h) hG.rise
  have new : ∀ t ∈ as, H t = none := fun t ht => I.hok.fresh (Nat.le_trans hS0 (Nat.le_of_lt (hG.above t ht)))
  have newS : H S = none := I.hok.fresh hS0
  have atP := putP_at as ps (upd H S (.lst (as.map V.ref))) hl nd
  have off : ∀ b, b ∉ as → b ≠ S → putP (upd H S (.lst (as.map V.ref))) as ps b = H b := fun b h1 h2 => by rw [putP_off as ps _ h1, upd_ne h2]
  have low : ∀ b o, s.heap.get? b = some o → b ∉ as ∧ b ≠ S := fun b o e => ⟨fun z => absurd (Nat.lt_of_lt_of_le (Heap.lt_size e) hS0) (Nat.not_lt.mpr (Nat.le_of_lt (hG.above b z))), Nat.ne_of_lt (Nat.lt_of_lt_of_le (Heap.lt_size e) hS0)⟩
  have kp : ∀ b u, H b = some u → (putP (upd H S (.lst (as.map V.ref))) as ps) b = some u := fun b u e => by
    rw
        [off b (fun z => by rw [new b z] at e; cases e) (fun z => by rw [z, newS] at e; cases e)]
    exact e
  have eS : putP (upd H S (.lst (as.map V.ref))) as ps S = some (.lst (as.map V.ref)) := by rw [putP_off as ps _ hSn, upd_same]
  refine ⟨putP (upd H S (.lst (as.map V.ref))) as ps, kp, newS, new, hSn, eS, atP, ?_⟩
  refine
      I.call' (ch := []) rfl ⟨fun b o q _ _ _ => hk b o q, fun b o q _ _ _ => ⟨o.slots, hk b o q⟩, fun b o q n _ => ?_, fun b o q _ => ⟨o, hk b o q⟩, fun b xs q => kp b _ q, fun b o u q => kp b _ q, fun b ps q => ⟨#[], by rw [kp b _ q]; simp⟩⟩ (fun b u q => ?_) I.bare fun b z => by simp at z
  · obtain
        ⟨z1, z2⟩ := low b o q
    rw [off b z1 z2]
    exact n
  · by_cases hb : b ∈ as
    · obtain ⟨j, pk, e1, e2, e3⟩ := LiI.paired_ix atP hb
      rw [e3] at q
      cases q
      obtain ⟨x, y, f1, f2, f3⟩ := hG.pairs j b e1
      obtain ⟨x', y', g1, g2, g3, g4⟩ := rel j pk e2
      rw [f1] at g1
      cases g1
      rw [f2] at g2
      cases g2
      exact ⟨by show 2 ≤ sizeLine; decide, [x, y], .cons g3 (.cons g4 .nil), ⟨_, f3, rfl, _, rfl⟩⟩
    · by_cases hb2 : b = S
      · rw [hb2] at q ⊢
        rw [eS] at q
        cases q
        refine ⟨by rw [List.length_map]; omega, acc.toList, c, by rw [hacc]; exact LiI.vals_refs as, ?_⟩
        rw [Array.toArray_toList]
        exact hS
      · rw [off b hb hb2] at q
        exact
            (I.hok b u q).stay (fun d v _ y => hk d v y) (fun d y => kp d _ y) fun d xs y => kp d _ y
/-- list(zip(e, e2)) -/
theorem pe_listZip (hc : X.calm = true) (hg : Gl X "list") (hm : X.mg "list" = none) (hg2 : Gl X "zip") (hm2 : X.mg "zip" = none) (ha : PA X [e, e2] ta)
    (hs : starEach [.Call (.Name "zip" p2) [e, e2] [] pos2] X.env = (false, eval (.Call (.Name "zip" p2) [e, e2] [] pos2) X.env) :: starEach [] X.env := by rfl)
    (hs2 : starEach [e, e2] X.env = (false, eval e X.env) :: starEach [e2] X.env := by rfl) (hpl2 : (backTo pos2 (starEach [e2] X.env)).any (·.1) = false := by rfl) :
    PE X (.Call (.Name "list" p) [.Call (.Name "zip" p2) [e, e2] [] pos2] [] pos) (tCB (rLZ X.K) ta) := by
  refine
      ⟨fun pins s σ H Q I hq => ?_⟩
  refine wpAny_Call_Name_kw (ld_blt I hg hm boot_list ?_)
  refine
      PyProof.Rows.callWith_type1 ?_ hs rfl
  rw [hs]
  show wpAny _ _ (spliced ((false, eval (.Call (.Name "zip" p2) [e, e2] [] pos2) X.env) :: backTo pos (starEach [] X.env))) _ _ s
  refine Calls.spliced_cons ?_
  refine Call_ (ld_blt I hg2 hm2 PyProof.Rows.boot_zip (PyProof.Rows.callWith_type1 (thn (ha.run pos2 pins s σ H _ I hq) fun us s1 ⟨vs, H1, I1, r1, q1⟩ => ?_) hs2 hpl2))
  obtain ⟨a, b, xs, ys, ex, hqx, hqy, hlen, q⟩ := q1
  subst ex
  obtain ⟨u1, u2, rfl, ra, rb⟩ := vals2 r1
  cases ra
  cases rb
  obtain ⟨its, rv, p1, z1⟩ := I1.list hqx
  obtain ⟨its2, rv2, p3, z2⟩ := I1.list hqy
  have
      la : a < s1.heap.objs.size := p1.lt
  have lb : b < s1.heap.objs.size := p3.lt
  have e1 := rv.length
  have e3 := rv2.length
  have w1 : its.toArray.size = its.length := by simp
  have w2 : its2.toArray.size = its2.length := by simp
  refine call_zip_2 p1.isList p3.isList fun h' hz hTI hTO h1 h2 hsz hk => ?_
  refine Calls.spliced_nil ?_
  refine zl_call (s := { s1 with heap := h' }) (I1.ok.hd hc) (PySem.W.ktu_apart s1.heap.objs.size a b la lb) its.length (by omega) w1 (by omega) hz hTI ⟨_, _, hTO⟩ h1 h2 (p1.isList.at fun o e => hk _ o e) (p3.isList.at fun o e => hk _ o e)
    fun h'' tk acc c as hk2 hS hl hG hacc => ?_
  have hle : s1.heap.objs.size ≤ h'.objs.size := by rw [hsz]; exact Nat.le_add_right _ _
  have kk : ∀ b o, s1.heap.get? b = some o → h''.get? b = some o := fun b o z => hk2 b o (fun w => by
    have lt := Heap.lt_size z
    have key : s1.heap.objs.size ≤ b := by
      rcases w with e | e | e | e
      · rw [e]; exact Nat.le_add_right _ _
      · rw [e]; exact Nat.le_add_right _ _
      · rw [e]; exact Nat.le_refl _
      · rw [e]; exact Nat.le_add_right _ _
    exact absurd lt (Nat.not_lt.mpr key)) (hk b o z)
  obtain ⟨H', k1, k2, k3, k4, k5, k6, J⟩ := zip_laid (tk := tk) (ps := xs.zip ys) (S := h'.objs.size) I1 (by rw [List.length_zip]; omega) hle (fun j pr e => by
    obtain ⟨f1, f2⟩ := zip_at e
    obtain ⟨u, g1, g2⟩ := rv.get f1
    obtain ⟨v, g3, g4⟩ := rv2.get f2
    exact ⟨u, v, by simpa using g1, by simpa using g3, g2, g4⟩) kk hS (by rw [hl, List.length_zip]; omega) hG hacc
  exact
      ⟨.ref _, H', J, rfl, q H' _ as k1 k2 k3 k4 k5 k6⟩
end
/-! ### tuple(list), the new tuple told with its object; dict of such a tuple of pairs -/
section
variable {X : Cx}
theorem call_tuple_frz : CallR X (.type "tuple") (fun xs H Q => ∃ p ys, xs = [.ref p] ∧ SqL X.K H p ys ∧ ∀ (l : Addr) (o : Obj), H l = none → o.dict = none → Q (.ref l) (upd H l (.frz o (.tup ys)))) := by
  intro
      pins s σ H xs us Q I r h
  obtain
      ⟨p, ys, rfl, hq, q⟩ := h
  obtain
      ⟨u, rfl, rx⟩ := vals1 r
  cases rx
  obtain ⟨its, r', pl, hz⟩ := I.list hq
  have hlen := r'.length
  refine
      call_tuple_list pl.isList (fun h' kp => ?_) (by simp only [List.size_toArray] <;> omega)
  have
      I1 : Inv X pins σ H { s with heap := h' } := I.kept (t' := s.toks) kp
  have I2 : Inv X pins σ (upd H h'.objs.size (.frz { cls := .type "tuple", data := .seq its.toArray } (.tup ys))) { s with heap := h'.push { cls := .type "tuple", data := .seq its.toArray } } :=
    I1.laid (t' := s.toks) (fun b o e => Heap.get?_push_of_some _ e) (Nat.le_refl _) (show ObjOk X.prog X.w _ _ _ (.frz { cls := .type "tuple", data := .seq its.toArray } (.tup ys)) from ⟨Heap.get?_push_size _ rfl, hz, its, r', IsTup.new _ _⟩)
  exact ⟨.ref h'.objs.size, _, I2, rfl, q _ _ (I1.hok.fresh (Nat.le_refl _)) rfl⟩
theorem pairs_of2 {pins : List (Addr × Obj)} {σ : L2.St} {H : Hp} {s : Shared} (I : Inv X pins σ H s) : ∀ {ps : List Addr} {kvs : List (Key × V)}, Paired (fun p kv => SqT X.K H p [kV kv.1, kv.2]) ps kvs →
    ∃ (prs : List (Key × Value)) (pv : List (Value × Value)), KV kvs prs ∧ prs.length = ps.length ∧ pv.length = ps.length ∧ ∀ (j : Nat) (k v : Value), pv[j]? = some (k, v) → ∃ (b : Addr) (q : Key), ps[j]? = some b ∧ IsTup s.heap b #[k, v] ∧ keyIs q k = true ∧ prs[j]? = some (q, v)
  | _, _, .nil => ⟨[], [], .nil, rfl, rfl, fun j k v e => by simp at e⟩
  | _, _, .cons (a := p) (b := kv) h t =>
      by
    obtain ⟨prs, pv, r, hl, hl2, hp⟩ := pairs_of2 I t
    obtain
        ⟨its, rv, ht, _⟩ := I.tuple h
    obtain
        ⟨u, y, ei, ru, ry⟩ := vals2 rv
    subst ei
    refine ⟨(kv.1, y) :: prs, (u, y) :: pv, .cons ⟨rfl, ry⟩ r, by rw [List.length_cons, List.length_cons, hl], by rw [List.length_cons, List.length_cons, hl2], fun j k v e => ?_⟩
    cases j with
    | zero =>
      have e' : (u, y) = (k, v) := Option.some.inj e
      cases e'
      exact ⟨p, kv.1, rfl, ht, kV_is (P := X.prog) (w := X.w) ru, rfl⟩
    | succ j =>
      obtain ⟨b, q, e1, e2, e3, e4⟩ := hp j k v (by simpa using e)
      exact ⟨b, q, by simpa using e1, e2, e3, by simpa using e4⟩
/-- dict(t), t a tuple of pairs -/
theorem call_dictT (hcalm : X.calm = true) : CallR X (.type "dict") (fun xs H Q => ∃ (a : Addr) (o : Obj) (ps : List Addr) (kvs : List (Key × V)), xs = [.ref a] ∧ H a = some (.frz o (.tup (ps.map V.ref))) ∧ o.dict = none ∧ Paired (fun p kv => SqT X.K H p [kV kv.1, kv.2]) ps kvs ∧
    ∀
        p, H p = none → Q (.ref p) (upd H p (.dK (mergeK [] kvs)))) := by
  intro
      pins s σ H xs us Q I r q
  obtain ⟨a, o, ps, kvs, ex, hq, hdn, hp, q⟩ := q
  subst ex
  obtain ⟨u, eu, rx⟩ := vals1 r
  subst eu
  cases rx
  obtain ⟨ho, hz, its, rv, o', ho', hc, n, hdat⟩ := (show ObjOk X.prog X.w H s.heap a (.frz o (.tup (ps.map V.ref))) from I.hok a _ hq)
  rw [ho] at ho'
  cases ho'
  have ei := refs_at rv
  subst ei
  rw [List.length_map] at hz
  obtain ⟨prs, pv, rel, hl, hl2, hpr⟩ := pairs_of2 I hp
  have P := PySem.PairArg.tuple (prog := X.prog) (w := X.w) a (ps.map Value.ref).toArray (fun j => ps.getD j 0) pv
  refine PySem.call_dict_pairs (knd := mixKind X.prog X.w) (kvs := prs) P (I.ok.hd hcalm) ⟨⟨o, n, ho, hc, hdn, hdat⟩, by simp [hl2], fun j k v e => ?_⟩ ⟨by rw [hl, hl2], fun j k v e => ?_⟩ (by rw [hl2]; exact hz) fun h' tk hd' k => ?_
  · obtain ⟨b, q', e1, e2, e3, e4⟩ := hpr j k v e
    have eg : ps.getD j 0 = b := by simp [e1]
    show (ps.map Value.ref).toArray[j]? = some (Value.ref (ps.getD j 0)) ∧ PairAt s.heap (ps.getD j 0) k v
    rw [eg]
    exact ⟨by simp [e1], .inl e2⟩
  · obtain ⟨b, q', e1, e2, e3, e4⟩ := hpr j k v e
    exact ⟨q', e4, e3⟩
  · have
        hm : (s.heap.objs.size == sysModules) = false := beq_eq_false_iff_ne.mpr (Nat.ne_of_gt I.big)
    have
        hlen : (mergeK [] kvs).length ≤ sizeLine := by
      refine
          Nat.le_trans (length_mergeK kvs []) ?_
      rw
          [List.length_nil, Nat.zero_add, rel.length, hl]
      exact hz
    exact ⟨.ref s.heap.objs.size, upd H s.heap.objs.size (.dK (mergeK [] kvs)), I.laid (t' := tk) (fun b o e => k b o (by simp) e) (Nat.le_refl _) (show ObjOk X.prog X.w _ _ _ (.dK (mergeK [] kvs)) from ⟨hlen, hm, merged [] prs, KV.merge rel .nil, hd'⟩), rfl, q _ (I.hok.fresh (Nat.le_refl _))⟩
end
end PB

/-! repr of data; defs whose promise holds where no repr is under way (they call repr); the law's end over such a def -/
namespace PB
open PySem PySem.Spec PyProof.Rows L2
/-! ### repr of a tuple or list of data -/
section
variable {X : Cx}
theorem call_repr (hg : X.A.guards = some []) (hu : X.A.units + 64 < cLine) : CallR X (.builtin "repr") (fun xs H Q => ∃ (a : Addr) (d : PyData), xs = [.ref a] ∧ Dp X.K H (.ref a) d ∧ d.showable = true ∧ d.hasDict = false ∧ d.depth ≤ 60 ∧ d.shown.length ≤ sizeLine ∧ Q (.str d.shown) H) := by
  rintro pins s σ H xs us Q I r ⟨a, d, rfl, hd, h1, h2, h3, h4, q⟩
  obtain
      ⟨u, rfl, ru⟩ := vals1 r
  obtain
      rfl : u = Value.ref a := ru
  obtain ⟨as, rd⟩ := Dp.reads I d _ _ hd (show RelV (.ref a) (Value.ref a) from rfl)
  exact PySem.repr_of_reads' rd h1 (fun e => absurd (h2.symm.trans e) Bool.false_ne_true) hg (by omega) (fun _ _ e => e) (fun h' t tk k => ⟨.str d.shown, H, I.kept k, ⟨t, rfl⟩, q⟩) h4
end
/-! ### a def that runs where no repr is under way -/
structure FnG (P : Program) (w : World) (K : PySem.W.Frag) (mg : Str → Option Value) (base : Heap) (k : Nat) (f : Addr) (fd : FuncData) (ps : List Str) (sp : Sp) : Prop where
  len
      : ∀ vs H Q E, sp vs H Q E → vs.length = ps.length
  run : ∀ (A : Around) (outer : List Env) (s : Shared) (H : Hp) (args : Args) (us : List Value) (vs : List V) (Q : VK) (E : XK), A.guards = some [] → Room k A → Env0 P w K mg base A outer s H → BindsTo s fd args (ps.zip us) → Vals vs us → sp vs H Q E →
    codeAny (model P w) A (.call (.ref f) args) (CR CX0 outer P w H s Q E) s
section
variable
    {P : Program} {w : World} {K : PySem.W.Frag} {mg : Str → Option Value} {base : Heap}
theorem fnG_of {x qual : Str} {params : Arguments} {body : List Stmt} {scope : Scope} {dvs : List V} {kws : List (Str × V)} {f : Addr} {fd : FuncData} {N ps : List Str} {k : Nat} {sp : Sp} (F : FunD K x qual params body scope dvs kws f fd) (S : FnScope N ps scope)
    (len
        : ∀ vs H Q E, sp vs H Q E → vs.length = ps.length)
    (hbody : ∀ (cdv : Value) (A : Around) (outer : List Env) (s : Shared) (H : Hp) (vs : List V) (Q : VK) (E : XK), A.guards = some [] → Room k (A.deeper (envOfC qual scope s.heap.objs.size f cdv)) → sp vs H Q E →
      ∃ t, PSs (cxOf CX0 P w K mg base N qual scope f cdv A outer s H E).nox body t ∧ t { nx := fun _ H' => Q .non H', rt := Q } (start N vs) H) : FnG P w K mg base (k + 1) f fd ps sp := by
  obtain
      ⟨oc, od, dV, kV, doc, pm, an, cdv, ct, osl, rfl, lk, hcd, _, _⟩ := F.ex
  constructor
  · exact len
  intro A outer s H args us vs Q E gA rA e0 bnd rv hsp
  have nV : vs.length = ps.length := len _ _ _ _ hsp
  have old : ∀ b o, base.get? b = some o → s.heap.get? b = some o := fun b o e => (e0.bs b o e).1
  have kIn : K.In s.heap := e0.mod.kin.keeps old
  have noLim : s.heap.NoLimit := e0.mod.nolimit.keeps old
  have kinds : ∀ y ∈ ps.zip us, scope.names.lookup y.1 = some .local ∨ (scope.names.lookup y.1 = some .cell ∧ ((cellsFrom (s.heap.objs.size + 1) scope.names []).lookup y.1).isSome = true) := by
    rintro ⟨n, v⟩ hy
    cases S.par n (List.of_mem_zip hy).1 with
    | inl q => exact Or.inl q
    | inr q => exact Or.inr ⟨q, PySem.W.cellsFrom_some _ _ _ (Or.inl q)⟩
  apply codeAny_call_function rA.depth (kIn _ _ lk) rfl S.co S.gen rfl (PySem.W.codeRec_of kIn hcd)
  apply bnd
  apply wpAny_newFunctionEnv_cells S.kind kinds
  rintro env rfl s1 ic
  refine ⟨noLim.keeps ic.toInCall.keep, codeAny_func ?_⟩
  obtain ⟨t, ht, hq⟩ := hbody cdv A outer s H vs Q E gA (rA.deeper _) hsp
  have I1 : Inv (cxOf CX0 P w K mg base N qual scope f cdv A outer s H E) [] (start N vs) H s1 := inv_start S rA.hd e0 nV rv ic
  have done : ∀ (σ' : L2.St) (H' : Hp) (v : V) (u : Value) (s' : Shared), Inv (cxOf CX0 P w K mg base N qual scope f cdv A outer s H E) [] σ' H' s' → RelV v u → Q v H' → CE outer P w H s Q u s' :=
    fun σ' H' v u s' J rv q => ⟨v, H', J.os, J.bare, J.base, J.hok, rv, q⟩
  refine wpAny_mono (ht.nox.run [] s1 _ H _ I1 hq) ?_ fun e s' z => z
  intro fl s' z
  cases fl with
  | next =>
    obtain ⟨σ', H', J, q⟩ := z
    exact done σ' H' .non .none s' J rfl q
  | ret u =>
    obtain ⟨v, σ', H', J, rr, q⟩ := z
    exact done σ' H' v u s' J rr q
  | brk => exact (let ⟨_, _, _, q⟩ := z; q : False).elim
  | cont => exact (let ⟨_, _, _, q⟩ := z; q : False).elim
end
section
variable {X : Cx} {k : Nat} {f : Addr} {fd : FuncData} {ps : List Str} {sp : Sp} {x : Str} {p pos : Pos} {e : Expr} {es : List Expr} {t : TA}
/-- f(e, ..), f such a def, called where no repr is under way -/
theorem pe_callG (F : FnG X.prog X.w X.K X.mg X.base k f fd ps sp) (gA : X.A.guards = some []) (hr : Room k X.A) (hg : Gl X x) (hm : X.mg x = some (.ref f)) (hk : PySem.W.keepIn X.K (.ref f) = true) (hb : Binds X.K fd ps [])
    (ha
        : PA X (e :: es) t) (hdb : (x == ("__debug__" : Str)) = false := by decide) (he : starEach (e :: es) X.env = (false, eval e X.env) :: starEach es X.env := by rfl) (hpl : (backTo pos (starEach es X.env)).any (·.1) = false := by rfl) :
    PE X (.Call (.Name x p) (e :: es) [] pos) (tCall sp [] E0 t) := by
  constructor
  intro pins s σ H Q I h
  apply wpAny_Call_Name_kw
  apply ld_glob I hg hm (hd := hdb)
  apply PySem.W.callWith_K (h₀ := X.base) I.ok.mod.kin hk (he := he) (hplain := hpl)
  refine thn (ha.run pos pins s σ H _ I h) ?_
  rintro us s1 ⟨vs, H1, I1, r, q⟩
  rw [List.append_nil] at q
  refine ⟨I1.kIn, wpAny_call ?_⟩
  have nU : us.length = ps.length := by rw [← r.length]; exact F.len _ _ _ _ q
  have bnd := hb s1 us I1.kIn (by rw [List.append_nil]; exact nU)
  rw [List.append_nil] at bnd
  refine codeAny_mono (F.run X.A X.stack s1 H1 ⟨us, []⟩ us vs Q E0 gA hr I1.env0 bnd r q) ?_
  intro res s' z
  cases res with
  | error e => exact False.elim z
  | ok fl =>
    cases fl with
    | ret u => exact I1.after z
    | next => exact False.elim z
    | brk => exact False.elim z
    | cont => exact False.elim z
end
/-! ### the law's end over such a def -/
theorem law_callG {P : Program} {w : World} {K : PySem.W.Frag} {mg mb : Str → Option Value} {k : Nat} {fa a : Addr} {fd : FuncData} {x : Str} {sp : Sp} {s1 : Shared} {vs : List Value} {ns : List Int}
    (KX : K.In s1.heap) (hns : s1.heap.Ns mainGlobals mg) (hb : s1.heap.Ns builtinsNs mb) (hbb : ∀ x : Str, x ≠ "__name__" → mb x = bootBuiltins x) (hlim : s1.heap.NoLimit) (hg : s1.gens = #[])
    (ha : s1.heap.get? a = some { cls := .type "list", data := .seq vs.toArray }) (hi : IntsAre vs ns) (hl : ns.length ≤ sizeLine) (hr : Room k callerA)
    (F : ∀ base : Heap, K.In base → base.Ns mainGlobals mg → FnG P w K mg base k fa fd [x] sp) (hbind : ∀ (s : Shared) (u : Value), BindsTo s fd ⟨[u], []⟩ [(x, u)])
    (hsp : ∀ H : Hp, Only H → SqL K H a (ns.map V.int) → sp [.ref a] H (fun v _ => v = .bl true) E0) :
    codeAny (model P w) callerA (.call (.ref fa) ⟨[.ref a], []⟩) (fun r s' => r = .ok (.ret (.bool true)) ∧ OldK s1.heap s'.heap ∧ s'.os = s1.os ∧ AllBare s'.gens) s1 := by
  have rel : Vals (ns.map V.int) vs := vals_ints hi
  have nV : vs.length = ns.length := by have := rel.length; rw [List.length_map] at this; exact this.symm
  -- the abstract heap: the script alone, where it is no object of the written part
  suffices go : ∀ H : Hp, Only H → SqL K H a (ns.map V.int) → HOk P w H s1.heap → (∀ b u, H b = some u → b = a ∧ K.lookup b = none) →
      codeAny (model P w) callerA (.call (.ref fa) ⟨[.ref a], []⟩) (fun r s' => r = .ok (.ret (.bool true)) ∧ OldK s1.heap s'.heap ∧ s'.os = s1.os ∧ AllBare s'.gens) s1 by
    cases hk : K.lookup a with
    | some o =>
      have e0 : s1.heap.get? a = some o := KX a o hk
      rw [ha] at e0
      cases e0
      exact go (fun _ => none) (fun _ => Or.inl rfl) (Or.inr ⟨_, vs.toArray, 0, hk, rfl, rfl, rfl, by rw [List.size_toArray, nV]; exact hl, by simpa using rel⟩) (fun b u z => by cases z) (fun b u z => by cases z)
    | none =>
      have tr : ∀ b u, (if b = a then some (HO.frz { cls := .type "list", data := .seq vs.toArray } (.lst (ns.map V.int))) else none) = some u → b = a ∧ u = HO.frz { cls := .type "list", data := .seq vs.toArray } (.lst (ns.map V.int)) := fun b u z => by
        by_cases q : b = a
        · rw [if_pos q] at z
          exact ⟨q, (Option.some.inj z).symm⟩
        · rw [if_neg q] at z
          cases z
      refine go (fun b => if b = a then some (.frz { cls := .type "list", data := .seq vs.toArray } (.lst (ns.map V.int))) else none) ?_ (Or.inl (Or.inr ⟨_, if_pos rfl⟩)) ?_ ?_
      · intro b
        by_cases q : b = a
        · exact Or.inr ⟨_, _, if_pos q⟩
        · exact Or.inl (if_neg q)
      · intro b u z
        obtain ⟨rfl, rfl⟩ := tr b u z
        exact ⟨ha, by rw [List.length_map]; exact hl, vs, _, rel, ha⟩
      · intro b u z
        obtain ⟨rfl, rfl⟩ := tr b u z
        exact ⟨rfl, hk⟩
  intro H hO hS hok hA
  have free : ∀ {b : Addr} {o : Obj}, s1.heap.get? b = some o → b ≠ a → H b = none := fun {b o} e ne => by
    cases q : H b with
    | none => rfl
    | some u => exact absurd (hA b u q).1 ne
  have inB : ∀ {b : Addr} {o : Obj}, s1.heap.get? b = some o → H b = none → (hidT s1.heap H).get? b = some o := fun e n => hidT_get e n
  have nsB : ∀ {b : Addr} {m : Str → Option Value}, s1.heap.Ns b m → (hidT s1.heap H).Ns b m := by
    rintro b m ⟨o, es, ep, e, d, r⟩
    refine ⟨o, es, ep, inB e (free e ?_), d, r⟩
    rintro rfl
    rw [ha] at e
    cases e
    cases d
  have kB : K.In (hidT s1.heap H) := fun b o e => inB (KX b o e) (by
    cases q : H b with
    | none => rfl
    | some u =>
      have z := (hA b u q).2
      rw [e] at z
      cases z)
  have limB : (hidT s1.heap H).NoLimit := by
    obtain ⟨mc, h1, h2⟩ := hlim
    exact ⟨mc, nsB h1, h2⟩
  have env0 : Env0 P w K mg (hidT s1.heap H) callerA [] s1 H :=
    { frames := rfl, mod := ⟨kB, nsB hns, ⟨mb, nsB hb, hbb⟩, limB⟩, bs := fun b o e => of_hidT e, bsz := Nat.le_of_eq (hidT_size _ _), funs := trivial, frf := fun b z => absurd (show b ∈ ([] : List Addr) from z) (by simp), hok := hok, bare := .of_eq hg }
  refine codeAny_mono ((F _ kB (nsB hns)).run callerA [] s1 H ⟨[.ref a], []⟩ [.ref a] [.ref a] _ _ rfl hr env0 (hbind s1 (.ref a)) (.cons rfl .nil) (hsp H hO hS)) ?_
  intro res s' z
  cases res with
  | error e => exact False.elim z
  | ok fl =>
    cases fl with
    | next => exact False.elim z
    | brk => exact False.elim z
    | cont => exact False.elim z
    | ret u =>
      obtain ⟨v, H', eos, ebare, un, hok', rr, ev⟩ := z
      have ev' : v = .bl true := ev
      rw [ev'] at rr
      obtain rfl : u = Value.bool true := rr
      refine ⟨rfl, OldK.of_keep ?_, eos, ebare⟩
      intro b o e
      cases q : H b with
      | none => exact un.keep b o e q (fun z => absurd (show b ∈ ([] : List Addr) from z) (by simp)) (fun z => absurd z (by simp))
      | some hu =>
        cases hO b with
        | inl z => rw [q] at z; cases z
        | inr z =>
          obtain ⟨ob, xs, z⟩ := z
          have e1 := (hok b _ z).1
          have e2 := (hok' b _ (un.frzs b ob _ z)).1
          rw [e] at e1
          rw [Option.some.inj e1]
          exact e2
/-- the walk of the law's row -/
theorem walk_G {l : PySem.W.OpenLaw} {n k : Nat} {q : Program} {loose : List Str} {XP : (Str → Option Value) → Heap → Prop} {YP : World → Heap → Prop} {d : DefRec} {x : Str}
    (hn
        : l.most = some n) (hn2 : n ≤ sizeLine) (hdf : d.params.defaults = []) (hr : Room k callerA)
    (F
        : ∀ (w : World) (mg : Str → Option Value) (fa : Addr) (h : Heap), YP w h → h.Ns mainGlobals mg → mg d.name = some (.ref fa) →
      ∃
          (K : PySem.W.Frag) (fd : FuncData) (sp : Sp), K.In h ∧ (∀ (s : Shared) (u : Value), BindsTo s fd ⟨[u], []⟩ [(x, u)]) ∧
        (∀ (H : Hp) (a : Addr) (ns : List Int), ns.length ≤ n → Only H → SqL K H a (ns.map V.int) → sp [.ref a] H (fun v _ => v = .bl true) E0) ∧
        ∀ base : Heap, K.In base → base.Ns mainGlobals mg → FnG l.prog w K mg base k fa fd [x] sp) :
    PySem.W.WalkO
        q loose XP YP l.row.toRowW d [] (fun f vs => PySem.call f vs) := by
  apply Att.attach_call hn hdf
  intro w s0 s1 mg mb fa o pm cd doc a vs ns G Y ho hd hcd hmg hobj hints hlen hgen
  obtain
      ⟨K, fd, sp, KX, hb, hsp, hF⟩ := F w mg fa _ Y G.T.g hmg
  exact law_callG KX G.T.g G.T.b G.T.builtins G.T.nolimit hgen hobj hints (Nat.le_trans hlen hn2) hr hF hb fun H hO hS => hsp H a ns hlen hO hS
end PB

/-! the plain law: rows, books on two tracks, what a torn row leaves. No program here -/
namespace PB
open PySem
def nums : List Nat := [2, 1, 0, 1, 1, 3, 1, 4, 2, 1, 3, 0]
def nm (i : Nat) : Nat := nums.getD i 0
theorem nm_le (i : Nat) : nm i ≤ 4 := by
  unfold nm nums
  by_cases h : i < 12
  · have : i = 0 ∨ i = 1 ∨ i = 2 ∨ i = 3 ∨ i = 4 ∨ i = 5 ∨ i = 6 ∨ i = 7 ∨ i = 8 ∨ i = 9 ∨ i = 10 ∨ i = 11 := by omega
    rcases this with rfl | rfl | rfl | rfl | rfl | rfl | rfl | rfl | rfl | rfl | rfl | rfl <;> decide
  · rw [List.getD_eq_getElem?_getD, List.getElem?_eq_none (by show 12 ≤ i; omega)]
    exact Nat.zero_le _
/-- a record, or the word whole: its word's place, its numbers -/
structure Rc where
  w : Nat
  ns : List Int
  deriving DecidableEq
def whole : Rc := ⟨11, []⟩
def Rc.ok (r : Rc) : Prop := r.w < 12 ∧ r.ns.length = nm r.w
/-- a record -/
structure Rc.good (r : Rc) : Prop where
  w : r.w < 11
  len : r.ns.length = nm r.w
  ns : ∀ n ∈ r.ns, 0 ≤ n ∧ n ≤ 9223372036854775807
theorem Rc.good.ok {r : Rc} (h : r.good) : r.ok := ⟨by have := h.w; omega, h.len⟩
theorem Rc.good.ne {r : Rc} (h : r.good) : r ≠ whole := by
  rintro rfl
  exact absurd h.w (by decide)
theorem whole_ok : whole.ok := ⟨by decide, rfl⟩
/-- the five cells behind the mark -/
def Rc.cells (r : Rc) : List Int := ((r.w : Int) + 1) :: (r.ns ++ List.replicate (4 - r.ns.length) 0)
theorem Rc.ok.len {r : Rc} (h : r.ok) : r.cells.length = 5 := by
  have h1 := nm_le r.w
  have h2 := h.2
  unfold Rc.cells
  rw [List.length_cons, List.length_append, List.length_replicate]
  omega
theorem cells_inj {r q : Rc} (h : r.ok) (h' : q.ok) (e : r.cells = q.cells) : r = q := by
  obtain ⟨w, ns⟩ := r
  obtain ⟨w', ns'⟩ := q
  unfold Rc.cells at e
  injection e with e1 e2
  have ew : w = w' := by
    have e1' : (w : Int) + 1 = (w' : Int) + 1 := e1
    omega
  subst ew
  have hl : ns.length = ns'.length := h.2.trans h'.2.symm
  have e3 := (List.append_inj e2 hl).1
  have e3' : ns = ns' := e3
  rw [e3']
/-- what five cells write -/
def recAt (l : List Int) : Option Rc :=
  if 1 ≤ l.headD 0 ∧ l.headD 0 ≤ 12 then
    (if (Rc.mk (l.headD 0 - 1).toNat ((l.drop 1).take (nm (l.headD 0 - 1).toNat))).cells = l then some ⟨(l.headD 0 - 1).toNat, (l.drop 1).take (nm (l.headD 0 - 1).toNat)⟩ else none)
  else none
theorem recAt_cells {r : Rc} (h : r.ok) : recAt r.cells = some r := by
  obtain ⟨w, ns⟩ := r
  have hw : w < 12 := h.1
  have hl : ns.length = nm w := h.2
  have e1 : (Rc.cells ⟨w, ns⟩).headD 0 = (w : Int) + 1 := rfl
  have e2 : ((w : Int) + 1 - 1).toNat = w := by omega
  have e3 : ((Rc.cells ⟨w, ns⟩).drop 1).take (nm w) = ns := by
    show (ns ++ List.replicate (4 - ns.length) 0).take (nm w) = ns
    rw [← hl, List.take_left]
  unfold recAt
  rw [e1, if_pos ⟨by omega, by omega⟩, e2, e3, if_pos rfl]
theorem recAt_some {l : List Int} {r : Rc} (hl : l.length = 5) (h : recAt l = some r) : r.ok ∧ l = r.cells := by
  unfold recAt at h
  by_cases c : 1 ≤ l.headD 0 ∧ l.headD 0 ≤ 12
  · rw [if_pos c] at h
    by_cases c2 : (Rc.mk (l.headD 0 - 1).toNat ((l.drop 1).take (nm (l.headD 0 - 1).toNat))).cells = l
    · rw [if_pos c2] at h
      have e := Option.some.inj h
      subst e
      have h1 := nm_le (l.headD 0 - 1).toNat
      refine ⟨⟨?_, ?_⟩, c2.symm⟩
      · show (l.headD 0 - 1).toNat < 12
        omega
      · show ((l.drop 1).take (nm (l.headD 0 - 1).toNat)).length = nm (l.headD 0 - 1).toNat
        rw
            [List.length_take, List.length_drop]
        omega
    · rw [if_neg c2] at h
      cases h
  · rw [if_neg c] at h
    cases h
/-! ### rows of a track -/
def rowAt (f : Int → Int) (k : Nat) : List Int := [f (6 * k + 1), f (6 * k + 2), f (6 * k + 3), f (6 * k + 4), f (6 * k + 5)]
structure RowsOf (f : Int → Int) (g : Int) (rs : List Rc) : Prop where
  at_ : ∀ (i : Nat) (r : Rc), rs[i]? = some r → f (6 * i) = g ∧ r.ok ∧ rowAt f i = r.cells
  stop : f (6 * (rs.length : Nat)) ≠ g ∨ recAt (rowAt f rs.length) = none
theorem RowsOf.short {f : Int → Int} {g : Int} {a b : List Rc} (ha : RowsOf f g a) (hb : RowsOf f g b) : ¬ a.length < b.length := by
  intro h
  have e : b[a.length]? = some b[a.length] := List.getElem?_eq_getElem h
  obtain ⟨h1, h2, h3⟩ := hb.at_ _ _ e
  rcases ha.stop with z | z
  · exact z h1
  · rw [h3, recAt_cells h2] at z
    cases z
theorem RowsOf.uniq {f : Int → Int} {g : Int} {a b : List Rc} (ha : RowsOf f g a) (hb : RowsOf f g b) : a = b := by
  have hl : a.length = b.length := by
    have h1 := ha.short hb
    have h2 := hb.short ha
    omega
  refine List.ext_getElem? fun i => ?_
  by_cases h : i < a.length
  · have e1 : a[i]? = some a[i] := List.getElem?_eq_getElem h
    have e2 : b[i]? = some (b[i]'(hl ▸ h)) := List.getElem?_eq_getElem (hl ▸ h)
    obtain ⟨_, h2, h3⟩ := ha.at_ _ _ e1
    obtain ⟨_, h5, h6⟩ := hb.at_ _ _ e2
    rw [e1, e2, cells_inj h2 h5 (h3.symm.trans h6)]
  · rw [List.getElem?_eq_none (by omega), List.getElem?_eq_none (by omega)]
/-! ### books -/
def tk (g : Int) : Nat := 1 + (g % 2).toNat
theorem tk_cases (g : Int) : tk g = 1 ∨ tk g = 2 := by
  unfold tk
  omega
theorem tk_int (g : Int) : ((tk g : Nat) : Int) = 1 + g % 2 := by
  unfold tk
  omega
structure Trk (f : Int → Int) (t B : Nat) : Prop where
  lo : ∀ k : Nat, 0 ≤ f (6 * k)
  hi : ∀ k : Nat, f (6 * k) ≤ f 0
  far : ∀ k : Nat, B ≤ k → f (6 * k) = 0
  par : f 0 = 0 ∨ tk (f 0) = t
  w0 : f 1 ≠ 12
  mx : f 0 ≤ B
theorem Trk.mono {f : Int → Int} {t B B' : Nat} (h : Trk f t B) (hB : B ≤ B') : Trk f t B' := ⟨h.lo, h.hi, fun k hk => h.far k (by omega), h.par, h.w0, by have := h.mx; omega⟩
/-- the book of generation g counts (none, if g is 0): rs and the word whole, and more behind it -/
structure BkSt (F : Nat → Int → Int) (g : Int) (rs more : List Rc) (B : Nat) : Prop where
  trk : ∀ t : Nat, t = 1 ∨ t = 2 → Trk (F t) t B
  now : ∀ t : Nat, t = 1 ∨ t = 2 → g < F t 0 → ∀ k : Nat, 1 ≤ k → F t (6 * k) = F t 0 → F t (6 * k + 1) ≠ 12
  g0 : 0 ≤ g
  zero : g = 0 → rs = [] ∧ more = []
  at0 : 0 < g → F (tk g) 0 = g
  ne : 0 < g → rs ≠ []
  rows : 0 < g → ∀ (i : Nat) (r : Rc), (rs ++ whole :: more)[i]? = some r → F (tk g) (6 * i) = g ∧ rowAt (F (tk g)) i = r.cells
  past : 0 < g → ∀ k : Nat, (rs ++ whole :: more).length ≤ k → F (tk g) (6 * k) ≠ g
  good : ∀ r ∈ rs ++ more, r.good
theorem BkSt.mono {F : Nat → Int → Int} {g : Int} {rs more : List Rc} {B B' : Nat} (h : BkSt F g rs more B) (hB : B ≤ B') : BkSt F g rs more B' :=
  ⟨fun t ht => (h.trk t ht).mono hB, h.now, h.g0, h.zero, h.at0, h.ne, h.rows, h.past, h.good⟩
/-- nothing was ever written -/
theorem bkSt_new : BkSt (fun _ _ => 0) 0 [] [] 0 :=
  ⟨fun t _ => ⟨fun _ => Int.le_refl _, fun _ => Int.le_refl _, fun _ _ => rfl, .inl rfl, by decide, Int.le_refl _⟩, fun t _ h => absurd h (by show ¬ ((0 : Int) < 0); omega), Int.le_refl _, fun _ => ⟨rfl, rfl⟩,
    fun h => absurd h (by omega), fun h => absurd h (by omega), fun h => absurd h (by omega), fun h => absurd h (by omega), fun r h => absurd h (by simp)⟩
theorem BkSt.mem_ok {F : Nat → Int → Int} {g : Int} {rs more : List Rc} {B : Nat} (h : BkSt F g rs more B) : ∀ r ∈ rs ++ whole :: more, r.ok := by
  intro r hr
  rcases List.mem_append.mp hr with z | z
  · exact (h.good r (List.mem_append_left _ z)).ok
  · rcases
        List.mem_cons.mp z with z | z
    · rw [z]; exact whole_ok
    · exact (h.good r (List.mem_append_right _ z)).ok
theorem BkSt.rowsOf {F : Nat → Int → Int} {g : Int} {rs more : List Rc} {B : Nat} (h : BkSt F g rs more B) (hg : 0 < g) : RowsOf (F (tk g)) g (rs ++ whole :: more) := by
  refine ⟨fun i r e => ?_, .inl (h.past hg _ (Nat.le_refl _))⟩
  obtain ⟨h1, h2⟩ := h.rows hg i r e
  exact ⟨h1, h.mem_ok r (List.mem_of_getElem? e), h2⟩
theorem whole_head {f : Int → Int} {k : Nat} (h : rowAt f k = whole.cells) : f (6 * k + 1) = 12 := by
  have e : (rowAt f k).headD 0 = whole.cells.headD 0 := by rw [h]
  exact e
theorem row_head {f : Int → Int} {k : Nat} {r : Rc} (h : rowAt f k = r.cells) : f (6 * k + 1) = (r.w : Int) + 1 := by
  have e : (rowAt f k).headD 0 = r.cells.headD 0 := by rw [h]
  exact e
/-- a whole book is none of a greater generation -/
theorem BkSt.notAbove {F : Nat → Int → Int} {g : Int} {rs more R : List Rc} {B t : Nat} (h : BkSt F g rs more B) (ht : t = 1 ∨ t = 2) (hR : RowsOf (F t) (F t 0) R) (hw : whole ∈ R) : F t 0 ≤ g := by
  obtain ⟨i, hi⟩ := List.mem_iff_getElem?.mp hw
  obtain ⟨h1, _, h3⟩ := hR.at_ i whole hi
  have h4 := whole_head h3
  refine Int.not_lt.mp fun lt => ?_
  cases i with
  | zero =>
    refine (h.trk t ht).w0 ?_
    simpa using h4
  | succ i => exact h.now t ht lt (i + 1) (by omega) h1 h4
theorem BkSt.other {F : Nat → Int → Int} {g : Int} {rs more R : List Rc} {B t : Nat} (h : BkSt F g rs more B) (ht : t = 1 ∨ t = 2) (hR : RowsOf (F t) (F t 0) R) (hw : whole ∈ R) (hg : 0 < g) (hn : t ≠ tk g) : F t 0 < g := by
  have h1 := h.notAbove ht hR hw
  rcases (h.trk t ht).par with z | z
  · omega
  · rcases Int.lt_or_eq_of_le h1 with q | q
    · exact q
    · rw [q] at z
      exact absurd z.symm hn
/-! ### a row torn, a row written -/
structure Torn (F F' : Nat → Int → Int) (t k : Nat) (r : Rc) (g : Int) : Prop where
  oth : ∀ t' : Nat, t' ≠ t → F' t' = F t'
  out : ∀ x : Int, x < 6 * k ∨ 6 * k + 5 < x → F' t x = F t x
  wd : F' t (6 * k + 1) = F t (6 * k + 1) ∨ F' t (6 * k + 1) = (r.w : Int) + 1
  mrk : F' t (6 * k) = F t (6 * k) ∨ (F' t (6 * k) = g ∧ rowAt (F' t) k = r.cells)
structure Full (F F' : Nat → Int → Int) (t k : Nat) (r : Rc) (g : Int) : Prop where
  oth : ∀ t' : Nat, t' ≠ t → F' t' = F t'
  out : ∀ x : Int, x < 6 * k ∨ 6 * k + 5 < x → F' t x = F t x
  mrk : F' t (6 * k) = g
  row : rowAt (F' t) k = r.cells
theorem rowAt_congr {f f' : Int → Int} {i : Nat} (h : ∀ x : Int, 6 * (i : Int) ≤ x → x ≤ 6 * i + 5 → f' x = f x) : rowAt f' i = rowAt f i := by
  unfold rowAt
  rw [h _ (by omega) (by omega), h _ (by omega) (by omega), h _ (by omega) (by omega), h _ (by omega) (by omega), h _ (by omega) (by omega)]
section
variable {F F' : Nat → Int → Int} {g g' : Int} {rs more rs' : List Rc} {B t j : Nat} {r : Rc}
theorem Torn.mark {F F' : Nat → Int → Int} {t j : Nat} {r : Rc} {g : Int} (o : ∀ x : Int, x < 6 * (j : Int) ∨ 6 * (j : Int) + 5 < x → F' t x = F t x) (k : Nat) (h : k ≠ j) : F' t (6 * k) = F t (6 * k) := o _ (by omega)
theorem Torn.wd1 (o : ∀ x : Int, x < 6 * (j : Int) ∨ 6 * (j : Int) + 5 < x → F' t x = F t x) (k : Nat) (h : k ≠ j) : F' t (6 * k + 1) = F t (6 * k + 1) := o _ (by omega)
/-- cells of a row whose mark is an old one change: the books stay -/
theorem BkSt.torn0 (h : BkSt F g rs more B) (ht : t = 1 ∨ t = 2) (T : Torn F F' t j r g') (hm : F' t (6 * j) = F t (6 * j)) (hr : j = 0 → r.w ≠ 11) (hw : 1 ≤ j → g < F t 0 → F t (6 * j) ≠ F t 0) (hp : 0 < g → t = tk g → (rs ++ whole :: more).length ≤ j) : BkSt F' g rs more B := by
  have mark : ∀ k : Nat, F' t (6 * k) = F t (6 * k) := fun k => by
    by_cases e : k = j
    · rw [e]; exact hm
    · exact Torn.mark (r := r) (g := g') T.out k e
  have zero' : F' t 0 = F t 0 := by simpa using mark 0
  have ht' := h.trk t ht
  have trkT : Trk (F' t) t B := by
    refine ⟨fun k => by rw [mark]; exact ht'.lo k, fun k => by rw [mark, zero']; exact ht'.hi k, fun k hk => by rw [mark]; exact ht'.far k hk, by rw [zero']; exact ht'.par, ?_, by rw [zero']; exact ht'.mx⟩
    by_cases e : j = 0
    · subst e
      have q := T.wd
      simp only [Int.natCast_zero, Int.mul_zero, Int.zero_add] at q
      rcases q with q | q
      · rw [q]; exact ht'.w0
      · rw [q]
        have := hr rfl
        omega
    · rw [T.out 1 (by omega)]; exact ht'.w0
  have row : 0 < g → ∀ (i : Nat) (q : Rc), (rs ++ whole :: more)[i]? = some q → F' (tk g) (6 * i) = g ∧ rowAt (F' (tk g)) i = q.cells := by
    intro hg i q e
    obtain ⟨h1, h2⟩ := h.rows hg i q e
    by_cases et : tk g = t
    · have hl := hp hg et.symm
      have hi : i < (rs ++ whole :: more).length := (List.getElem?_eq_some_iff.mp e).1
      rw [et] at h1 h2 ⊢
      refine ⟨by rw [mark]; exact h1, ?_⟩
      rw [rowAt_congr fun x x1 x2 => T.out x (by omega)]
      exact h2
    · rw [T.oth _ et]
      exact ⟨h1, h2⟩
  refine ⟨fun t' h' => ?_, fun t' h' lt k hk e => ?_, h.g0, h.zero, fun hg => ?_, h.ne, row, fun hg k hk => ?_, h.good⟩
  · by_cases e : t' = t
    · rw [e]; exact trkT
    · rw [T.oth _ e]; exact h.trk t' h'
  · by_cases et : t' = t
    · rw [et] at lt e ⊢
      rw [zero'] at lt
      rw [mark, zero'] at e
      by_cases ek : k = j
      · rw [ek] at e
        exact absurd e (hw (by omega) lt)
      · rw [Torn.wd1 T.out k ek]
        exact h.now t ht lt k hk e
    · rw [T.oth _ et] at lt e ⊢
      exact h.now t' h' lt k hk e
  · by_cases et : tk g = t
    · rw [et, zero', ← et]; exact h.at0 hg
    · rw [T.oth _ et]; exact h.at0 hg
  · by_cases et : tk g = t
    · rw [et, mark, ← et]; exact h.past hg k hk
    · rw [T.oth _ et]; exact h.past hg k hk
end
end PB

namespace PB
open PySem
section
variable {F F' : Nat → Int → Int} {g g' : Int} {rs more rs' : List Rc} {B t j : Nat} {r : Rc}
theorem Full.torn {F F' : Nat → Int → Int} {t k : Nat} {r : Rc} {g : Int} (h : Full F F' t k r g) : Torn F F' t k r g := ⟨h.oth, h.out, .inr (row_head h.row), .inr ⟨h.mrk, h.row⟩⟩
theorem Torn.full {F F' : Nat → Int → Int} {t k : Nat} {r : Rc} {g : Int} (h : Torn F F' t k r g) (h1 : F' t (6 * k) = g) (h2 : rowAt (F' t) k = r.cells) : Full F F' t k r g := ⟨h.oth, h.out, h1, h2⟩
/-- the marks of a track ahead of the rows that count -/
theorem BkSt.length_le (h : BkSt F g rs more B) (hg : 0 < g) : (rs ++ whole :: more).length ≤ B := by
  refine Nat.not_lt.mp fun lt => ?_
  have e : (rs ++ whole :: more)[B]? = some (rs ++ whole :: more)[B] := List.getElem?_eq_getElem lt
  have h1 := (h.rows hg _ _ e).1
  have h2 := (h.trk _ (tk_cases g)).far B (Nat.le_refl _)
  omega
/-- a record is added, wholly -/
theorem BkSt.add_full (h : BkSt F g rs more B) (hg : 0 < g) (hr : r.good) (T : Full F F' (tk g) (rs ++ whole :: more).length r g) : BkSt F' g rs (more ++ [r]) (B + 1) := by
  have hle := h.length_le hg
  have ht := tk_cases g
  have hk := h.trk _ ht
  have h0 := h.at0 hg
  have hpos : 0 < (rs ++ whole :: more).length := by
    rw [List.length_append, List.length_cons]
    omega
  have mark : ∀ k : Nat, k ≠ (rs ++ whole :: more).length → F' (tk g) (6 * k) = F (tk g) (6 * k) := fun k e => Torn.mark (r := r) (g := g) T.out k e
  have zero' : F' (tk g) 0 = g := by
    have := mark 0 (by omega)
    simp only [Int.natCast_zero, Int.mul_zero] at this
    rw [this, h0]
  have eqL : rs ++ whole :: (more ++ [r]) = (rs ++ whole :: more) ++ [r] := by simp
  refine ⟨fun t' h' => ?_, fun t' h' lt k hk e => ?_, h.g0, fun e => absurd hg (by omega), fun _ => zero', h.ne, fun _ i q e => ?_, fun _ k hk => ?_, fun q hq => ?_⟩
  · by_cases e : t' = tk g
    · rw [e]
      refine ⟨fun k => ?_, fun k => ?_, fun k hkB => ?_, .inr (by rw [zero']), ?_, by rw [zero']; have := hk.mx; omega⟩
      · by_cases ek : k = (rs ++ whole :: more).length
        · rw [ek, T.mrk]; exact h.g0
        · rw [mark k ek]; exact hk.lo k
      · rw [zero']
        by_cases ek : k = (rs ++ whole :: more).length
        · rw [ek, T.mrk]; exact Int.le_refl _
        · rw [mark k ek]; have := hk.hi k; rw [h0] at this; exact this
      · rw [mark k (by omega)]; exact hk.far k (by omega)
      · rw [T.out 1 (by omega)]; exact hk.w0
    · rw [T.oth _ e]; exact (h.trk t' h').mono (by omega)
  · by_cases et : t' = tk g
    · rw [et, zero'] at lt
      omega
    · rw [T.oth _ et] at lt e ⊢
      exact h.now t' h' lt k hk e
  · rw [eqL] at e
    by_cases hi : i < (rs ++ whole :: more).length
    · rw [List.getElem?_append_left hi] at e
      obtain ⟨h1, h2⟩ := h.rows hg i q e
      exact ⟨by rw [mark i (by omega)]; exact h1, by rw [rowAt_congr fun x x1 x2 => T.out x (by omega)]; exact h2⟩
    · have hi2 : i < (rs ++ whole :: more).length + 1 := by
        have := (List.getElem?_eq_some_iff.mp e).1
        rw [List.length_append, List.length_singleton] at this
        exact this
      have ei : i = (rs ++ whole :: more).length := by omega
      rw [ei] at e ⊢
      have eq' : r = q := by simpa using e
      rw [← eq']
      exact ⟨T.mrk, T.row⟩
  · rw [eqL, List.length_append, List.length_singleton] at hk
    rw [mark k (by omega)]
    exact h.past hg k (by omega)
  · have hq' : q ∈ (rs ++ more) ++ [r] := by
      rw [List.append_assoc]
      exact hq
    rcases List.mem_append.mp hq' with z | z
    · exact h.good q z
    · rw [List.mem_singleton.mp z]; exact hr
/-- .. or torn -/
theorem BkSt.add_torn (h : BkSt F g rs more B) (hg : 0 < g) (hr : r.good) (T : Torn F F' (tk g) (rs ++ whole :: more).length r g) : BkSt F' g rs more (B + 1) ∨ BkSt F' g rs (more ++ [r]) (B + 1) := by
  have hpos : 0 < (rs ++ whole :: more).length := by
    rw [List.length_append, List.length_cons]
    omega
  rcases T.mrk with hm | ⟨h1, h2⟩
  · exact .inl ((h.torn0 (tk_cases g) T hm (fun e => absurd e (by omega)) (fun _ lt => absurd lt (by rw [h.at0 hg]; omega)) fun _ _ => Nat.le_refl _).mono (by omega))
  · exact .inr (h.add_full hg hr (T.full h1 h2))
/-- a book is being turned: j rows of the new one stand -/
structure Turning (F : Nat → Int → Int) (g : Int) (rs more : List Rc) (B : Nat) (g' : Int) (rs' : List Rc) (j : Nat) : Prop where
  st : BkSt F g rs more B
  rows : ∀ (i : Nat) (r : Rc), i < j → rs'[i]? = some r → F (tk g') (6 * i) = g' ∧ rowAt (F (tk g')) i = r.cells
  past : ∀ k : Nat, j ≤ k → F (tk g') (6 * k) < g'
  oth : ∀ t : Nat, t = 1 ∨ t = 2 → t ≠ tk g' → F t 0 < g'
  apart : 0 < g → tk g' ≠ tk g
  pos : 0 < g'
  above : g < g'
  mx : g' ≤ B
  room : rs'.length + 1 ≤ B
  good : ∀ r ∈ rs', r.good
  ne : rs' ≠ []
theorem Turning.begin (h : BkSt F g rs more B) (h1 : F 1 0 < g') (h2 : F 2 0 < g') (ha : 0 < g → tk g' ≠ tk g) (hmx : g' ≤ B) (hroom : rs'.length + 1 ≤ B) (hgood : ∀ r ∈ rs', r.good) (hne : rs' ≠ []) : Turning F g rs more B g' rs' 0 := by
  have lt : ∀ t : Nat, t = 1 ∨ t = 2 → F t 0 < g' := fun t ht => by
    rcases ht with e | e
    · rw [e]; exact h1
    · rw [e]; exact h2
  have p0 : 0 ≤ F 1 0 := by simpa using (h.trk 1 (.inl rfl)).lo 0
  refine ⟨h, fun i r hi => absurd hi (by omega), fun k _ => ?_, fun t ht _ => lt t ht, ha, by omega, ?_, hmx, hroom, hgood, hne⟩
  · have := (h.trk _ (tk_cases g')).hi k
    have := lt _ (tk_cases g')
    omega
  · by_cases hg : 0 < g
    · have := lt _ (tk_cases g)
      rw [h.at0 hg] at this
      exact this
    · have := h.g0
      omega
theorem Turning.zero (h : Turning F g rs more B g' rs' j) (hj : 1 ≤ j) : F (tk g') 0 = g' := by
  have hlen : 0 < rs'.length := List.length_pos_iff.mpr h.ne
  have e : rs'[0]? = some rs'[0] := List.getElem?_eq_getElem hlen
  have := (h.rows 0 _ (by omega) e).1
  simpa using this
/-- while a row is being written -/
theorem Turning.step_torn0 (h : Turning F g rs more B g' rs' j) (hr : j = 0 → r.w ≠ 11) (T : Torn F F' (tk g') j r g') (hm : F' (tk g') (6 * j) = F (tk g') (6 * j)) : BkSt F' g rs more B := by
  refine h.st.torn0 (tk_cases g') T hm hr (fun hj _ => ?_) fun hg e => absurd e (h.apart hg)
  have := h.past j (Nat.le_refl _)
  rw [h.zero hj]
  omega
/-- a row of the new book stands -/
theorem Turning.step_full (h : Turning F g rs more B g' rs' j) (hj : rs'[j]? = some r) (T : Full F F' (tk g') j r g') : Turning F' g rs more B g' rs' (j + 1) := by
  have hlt : j < rs'.length := (List.getElem?_eq_some_iff.mp hj).1
  have hr : r.good := h.good r (List.mem_of_getElem? hj)
  have hw : (r.w : Int) + 1 ≠ 12 := by have := hr.w; omega
  have hroom := h.room
  have mark : ∀ k : Nat, k ≠ j → F' (tk g') (6 * k) = F (tk g') (6 * k) := fun k e => Torn.mark (r := r) (g := g) T.out k e
  have rows' : ∀ (i : Nat) (q : Rc), i < j + 1 → rs'[i]? = some q → F' (tk g') (6 * i) = g' ∧ rowAt (F' (tk g')) i = q.cells := by
    intro i q hi e
    by_cases ei : i = j
    · rw [ei] at e ⊢
      rw [hj] at e
      cases e
      exact ⟨T.mrk, T.row⟩
    · obtain ⟨h1, h2⟩ := h.rows i q (by omega) e
      exact ⟨by rw [mark i ei]; exact h1, by rw [rowAt_congr fun x x1 x2 => T.out x (by omega)]; exact h2⟩
  have past' : ∀ k : Nat, j + 1 ≤ k → F' (tk g') (6 * k) < g' := fun k hk => by rw [mark k (by omega)]; exact h.past k (by omega)
  have zero' : F' (tk g') 0 = g' := by
    have e : rs'[0]? = some (rs'[0]'(by omega)) := List.getElem?_eq_getElem (by omega)
    have := (rows' 0 _ (by omega) e).1
    simpa using this
  have marks : ∀ k : Nat, F' (tk g') (6 * k) ≤ g' := fun k => by
    by_cases hk : j + 1 ≤ k
    · exact Int.le_of_lt (past' k hk)
    · have e : rs'[k]? = some (rs'[k]'(by omega)) := List.getElem?_eq_getElem (by omega)
      exact Int.le_of_eq (rows' k _ (by omega) e).1
  have old := h.st.trk _ (tk_cases g')
  have st' : BkSt F' g rs more B := by
    refine ⟨fun t' h' => ?_, fun t' h' lt k hk e => ?_, h.st.g0, h.st.zero, fun hg => ?_, h.st.ne, fun hg i q e => ?_, fun hg k hk => ?_, h.st.good⟩
    · by_cases e : t' = tk g'
      · rw [e]
        refine ⟨fun k => ?_, fun k => by rw [zero']; exact marks k, fun k hkB => ?_, .inr (by rw [zero']), ?_, by rw [zero']; exact h.mx⟩
        · by_cases ek : k = j
          · rw [ek, T.mrk]
            have := h.pos
            omega
          · rw [mark k ek]; exact old.lo k
        · rw [mark k (by omega)]; exact old.far k hkB
        · by_cases ej : j = 0
          · have q := row_head T.row
            rw [ej] at q
            have q' : F' (tk g') 1 = (r.w : Int) + 1 := by simpa using q
            rw [q']
            exact hw
          · rw [T.out 1 (by omega)]; exact old.w0
      · rw [T.oth _ e]; exact h.st.trk t' h'
    · by_cases et : t' = tk g'
      · rw [et] at e ⊢
        rw [zero'] at e
        have hk' : k < j + 1 := by
          refine Nat.not_le.mp fun q => ?_
          have := past' k q
          omega
        have ek : rs'[k]? = some (rs'[k]'(by omega)) := List.getElem?_eq_getElem (by omega)
        have q := row_head (rows' k _ hk' ek).2
        have := (h.good _ (List.mem_of_getElem? ek)).w
        rw [q]
        omega
      · rw [T.oth _ et] at lt e ⊢
        exact h.st.now t' h' lt k hk e
    · rw [T.oth _ (fun e => h.apart hg e.symm)]; exact h.st.at0 hg
    · rw [T.oth _ (fun e => h.apart hg e.symm)]; exact h.st.rows hg i q e
    · rw [T.oth _ (fun e => h.apart hg e.symm)]; exact h.st.past hg k hk
  exact ⟨st', rows', past', fun t ht hn => by rw [T.oth _ hn]; exact h.oth t ht hn, h.apart, h.pos, h.above, h.mx, h.room, h.good, h.ne⟩
theorem Turning.step_torn (h : Turning F g rs more B g' rs' j) (hj : rs'[j]? = some r) (T : Torn F F' (tk g') j r g') : BkSt F' g rs more B := by
  rcases T.mrk with hm | ⟨h1, h2⟩
  · have := (h.good r (List.mem_of_getElem? hj)).w
    exact h.step_torn0 (fun _ => by omega) T hm
  · exact (h.step_full hj (T.full h1 h2)).st
/-- whole stands: the new book counts -/
theorem Turning.last_full (h : Turning F g rs more B g' rs' rs'.length) (T : Full F F' (tk g') rs'.length whole g') : BkSt F' g' rs' [] B := by
  have hlen : 0 < rs'.length := List.length_pos_iff.mpr h.ne
  have hroom := h.room
  have hpos := h.pos
  have mark : ∀ k : Nat, k ≠ rs'.length → F' (tk g') (6 * k) = F (tk g') (6 * k) := fun k e => Torn.mark (r := whole) (g := g) T.out k e
  have zero' : F' (tk g') 0 = g' := by
    have := mark 0 (by omega)
    simp only [Int.natCast_zero, Int.mul_zero] at this
    rw [this, h.zero hlen]
  have old := h.st.trk _ (tk_cases g')
  have rows' : ∀ (i : Nat) (q : Rc), (rs' ++ whole :: [])[i]? = some q → F' (tk g') (6 * i) = g' ∧ rowAt (F' (tk g')) i = q.cells := by
    intro i q e
    by_cases hi : i < rs'.length
    · rw [List.getElem?_append_left hi] at e
      obtain ⟨h1, h2⟩ := h.rows i q hi e
      exact ⟨by rw [mark i (by omega)]; exact h1, by rw [rowAt_congr fun x x1 x2 => T.out x (by omega)]; exact h2⟩
    · have hi2 := (List.getElem?_eq_some_iff.mp e).1
      rw [List.length_append, List.length_singleton] at hi2
      have ei : i = rs'.length := by omega
      rw [ei] at e ⊢
      have eq' : whole = q := by simpa using e
      rw [← eq']
      exact ⟨T.mrk, T.row⟩
  have past' : ∀ k : Nat, rs'.length + 1 ≤ k → F' (tk g') (6 * k) < g' := fun k hk => by rw [mark k (by omega)]; exact h.past k (by omega)
  refine ⟨fun t' h' => ?_, fun t' h' lt k hk e => ?_, by omega, fun e => absurd e (by omega), fun _ => zero', fun _ => h.ne, fun _ => rows', fun _ k hk => ?_, fun q hq => h.good q (by simpa using hq)⟩
  · by_cases e : t' = tk g'
    · rw [e]
      refine ⟨fun k => ?_, fun k => ?_, fun k hkB => ?_, .inr (by rw [zero']), ?_, by rw [zero']; exact h.mx⟩
      · by_cases ek : k = rs'.length
        · rw [ek, T.mrk]; omega
        · rw [mark k ek]; exact old.lo k
      · rw [zero']
        by_cases ek : k = rs'.length
        · rw [ek, T.mrk]; exact Int.le_refl _
        · rw [mark k ek]
          have := old.hi k
          rw [h.zero hlen] at this
          exact this
      · rw [mark k (by omega)]; exact old.far k hkB
      · rw [T.out 1 (by omega)]; exact old.w0
    · rw [T.oth _ e]; exact h.st.trk t' h'
  · by_cases et : t' = tk g'
    · rw [et, zero'] at lt
      omega
    · rw [T.oth _ et] at lt
      have := h.oth t' h' et
      omega
  · rw
        [List.length_append, List.length_singleton] at hk
    have := past' k hk
    omega
theorem Turning.last_torn (h : Turning F g rs more B g' rs' rs'.length) (T : Torn F F' (tk g') rs'.length whole g') : BkSt F' g rs more B ∨ BkSt F' g' rs' [] B := by
  have hlen : 0 < rs'.length := List.length_pos_iff.mpr h.ne
  rcases T.mrk with hm | ⟨h1, h2⟩
  · exact .inl (h.step_torn0 (fun e => absurd e (by omega)) T hm)
  · exact .inr (h.last_full (T.full h1 h2))
end
/-! ### strokes -/
abbrev Stk := Nat × Int × Int
def land1 (F : Nat → Int → Int) (s : Stk) : Nat → Int → Int := fun t x => if t = s.1 ∧ x = s.2.1 then s.2.2 else F t x
def land (F : Nat → Int → Int) (ss : List Stk) : Nat → Int → Int := ss.foldl land1 F
/-- what may come of strokes of which some land -/
def May (F : Nat → Int → Int) (ss : List Stk) (F' : Nat → Int → Int) : Prop := ∀ t x, F' t x = F t x ∨ ∃ v, (t, x, v) ∈ ss ∧ F' t x = v
theorem land_may : ∀ (sel : List Stk) (F : Nat → Int → Int) (ss : List Stk), (∀ s ∈ sel, s ∈ ss) → May F ss (land F sel)
  | [], F, ss, _ => fun t x => .inl rfl
  | s :: sel, F, ss, h => fun t x => by
    rcases land_may sel (land1 F s) ss (fun q hq => h q (List.mem_cons_of_mem _ hq)) t x with e | e
    · show land (land1 F s) sel t x = F t x ∨ _
      rw [e]
      by_cases c : t = s.1 ∧ x = s.2.1
      · refine .inr ⟨s.2.2, ?_, e.trans (if_pos c)⟩
        rw [c.1, c.2]
        exact h s List.mem_cons_self
      · exact .inl (if_neg c)
    · exact .inr e
theorem May.nil {F F' : Nat → Int → Int} (h : May F [] F') : F' = F := by
  funext t x
  rcases h t x with e | ⟨v, e, _⟩
  · exact e
  · cases e
theorem land_nil (F : Nat → Int → Int) : land F [] = F := rfl
/-- the strokes of values written one behind another -/
def stks (t : Nat) : Int → List Int → List Stk
  | _, [] => []
  | a, v :: vs => (t, a, v) :: stks t (a + 1) vs
theorem stks_length (t : Nat) : ∀ (vs : List Int) (a : Int), (stks t a vs).length = vs.length
  | [], _ => rfl
  | v :: vs, a => by
    show (stks t (a + 1) vs).length + 1 = vs.length + 1
    rw [stks_length t vs]
theorem stks_snoc (t : Nat) (v : Int) : ∀ (vs : List Int) (a : Int), stks t a (vs ++ [v]) = stks t a vs ++ [(t, a + vs.length, v)]
  | [], a => by
    show [(t, a, v)] = [(t, a + ((0 : Nat) : Int), v)]
    simp
  | u :: vs, a => by
    show (t, a, u) :: stks t (a + 1) (vs ++ [v]) = (t, a, u) :: (stks t (a + 1) vs ++ [(t, a + ((vs.length + 1 : Nat) : Int), v)])
    rw [stks_snoc t v vs]
    have e : a + 1 + (vs.length : Int) = a + ((vs.length + 1 : Nat) : Int) := by omega
    rw [e]
theorem mem_stks {t t' : Nat} {x v : Int} : ∀ (vs : List Int) (a : Int), (t', x, v) ∈ stks t a vs → t' = t ∧ a ≤ x ∧ x < a + vs.length ∧ vs[(x - a).toNat]? = some v
  | [], _, h => by cases h
  | u :: vs, a, h => by
    rcases List.mem_cons.mp (show (t', x, v) ∈ (t, a, u) :: stks t (a + 1) vs from h) with e | e
    · cases e
      refine ⟨rfl, Int.le_refl _, by rw [List.length_cons]; omega, ?_⟩
      simp
    · obtain ⟨h1, h2, h3, h4⟩ := mem_stks vs (a + 1) e
      refine ⟨h1, by omega, by rw [List.length_cons]; omega, ?_⟩
      have e2 : (x - a).toNat = (x - (a + 1)).toNat + 1 := by omega
      rw [e2, List.getElem?_cons_succ]
      exact h4
theorem land_stks_out {t t' : Nat} {x : Int} : ∀ (vs : List Int) (a : Int) (F : Nat → Int → Int), ¬ (t' = t ∧ a ≤ x ∧ x < a + vs.length) → land F (stks t a vs) t' x = F t' x
  | [], _, _, _ => rfl
  | u :: vs, a, F, h => by
    show land (land1 F (t, a, u)) (stks t (a + 1) vs) t' x = F t' x
    rw [land_stks_out vs (a + 1) _ (fun z => h ⟨z.1, by omega, by rw [List.length_cons]; omega⟩)]
    exact if_neg fun z => h ⟨z.1, by have := z.2; simp only at this; omega, by have := z.2; simp only at this; rw [List.length_cons]; omega⟩
theorem land_stks_in {t : Nat} {x v : Int} : ∀ (vs : List Int) (a : Int) (F : Nat → Int → Int), a ≤ x → vs[(x - a).toNat]? = some v → land F (stks t a vs) t x = v
  | [], _, _, _, h =>
      by simp at h
  | u :: vs, a, F, h1, h => by
    show land (land1 F (t, a, u)) (stks t (a + 1) vs) t x = v
    by_cases e : x = a
    · subst e
      rw [land_stks_out vs (x + 1) _ (fun z => by omega)]
      have e2 : (x - x).toNat = 0 := by omega
      rw [e2] at h
      have e3 : u = v := by simpa using h
      rw [← e3]
      exact if_pos ⟨rfl, rfl⟩
    · have e2 : (x - a).toNat = (x - (a + 1)).toNat + 1 := by omega
      rw [e2, List.getElem?_cons_succ] at h
      exact land_stks_in vs (a + 1) _ (by omega) h
section
variable {F F' : Nat → Int → Int} {t k : Nat} {r : Rc} {g : Int}
/-- some of the cells of a row -/
theorem torn_cells (hr : r.ok) {ss : List Stk} (hs : ∀ s ∈ ss, s ∈ stks t (6 * k + 1) r.cells) (m : May F ss F') : Torn F F' t k r g := by
  have hl := hr.len
  have key : ∀ t' x, F' t' x = F t' x ∨ (t' = t ∧ 6 * (k : Int) + 1 ≤ x ∧ x < 6 * k + 6 ∧ r.cells[(x - (6 * k + 1)).toNat]? = some (F' t' x)) := fun t' x => by
    rcases m t' x with e | ⟨v, e, ev⟩
    · exact .inl e
    · obtain ⟨h1, h2, h3, h4⟩ := mem_stks _ _ (hs _ e)
      rw [hl] at h3
      exact .inr ⟨h1, h2, by omega, by rw [ev]; exact h4⟩
  refine ⟨fun t' ht => ?_, fun x hx => ?_, ?_, .inl ?_⟩
  · funext x
    rcases key t' x with e | e
    · exact e
    · exact absurd e.1 ht
  · rcases key t x with e | e
    · exact e
    · omega
  · rcases key t (6 * k + 1) with e | ⟨_, _, _, e⟩
    · exact .inl e
    · have e0 : (6 * (k : Int) + 1 - (6 * k + 1)).toNat = 0 := by omega
      rw [e0] at e
      have e1 : (r.w : Int) + 1 = F' t (6 * k + 1) := by simpa [Rc.cells] using e
      exact .inr e1.symm
  · rcases key t (6 * k) with e | e
    · exact e
    · omega
theorem land_row (hr : r.ok) : rowAt (land F (stks t (6 * k + 1) r.cells) t) k = r.cells := by
  have hl := hr.len
  obtain ⟨c0, c1, c2, c3, c4, hc⟩ : ∃ c0 c1 c2 c3 c4, r.cells = [c0, c1, c2, c3, c4] := by
    match h : r.cells, hl with
    | [c0, c1, c2, c3, c4], _ => exact ⟨c0, c1, c2, c3, c4, rfl⟩
  have at_ : ∀ (i : Nat) (v : Int), [c0, c1, c2, c3, c4][i]? = some v → land F (stks t (6 * k + 1) [c0, c1, c2, c3, c4]) t (6 * k + 1 + i) = v := fun i v e => by
    refine land_stks_in _ _ F (by omega) ?_
    have e2 : (6 * (k : Int) + 1 + i - (6 * k + 1)).toNat = i := by omega
    rw [e2]
    exact e
  rw [hc]
  unfold rowAt
  have a0 := at_ 0 c0 rfl
  have a1 := at_ 1 c1 rfl
  have a2 := at_ 2 c2 rfl
  have a3 := at_ 3 c3 rfl
  have a4 := at_ 4 c4 rfl
  have e0 : (6 * (k : Int) + 1 + ((0 : Nat) : Int)) = 6 * k + 1 := by omega
  have e1 : (6 * (k : Int) + 1 + ((1 : Nat) : Int)) = 6 * k + 2 := by omega
  have e2 : (6 * (k : Int) + 1 + ((2 : Nat) : Int)) = 6 * k + 3 := by omega
  have e3 : (6 * (k : Int) + 1 + ((3 : Nat) : Int)) = 6 * k + 4 := by omega
  have e4 : (6 * (k : Int) + 1 + ((4 : Nat) : Int)) = 6 * k + 5 := by omega
  rw [e0] at a0
  rw [e1] at a1
  rw [e2] at a2
  rw [e3] at a3
  rw [e4] at a4
  rw [a0, a1, a2, a3, a4]
theorem rowAt_congr2 {f f' : Int → Int} {i : Nat} (h : ∀ x : Int, x ≠ 6 * (i : Int) → f' x = f x) : rowAt f' i = rowAt f i := by
  unfold rowAt
  rw [h _ (by omega), h _ (by omega), h _ (by omega), h _ (by omega), h _ (by omega)]
/-- the cells have landed; the mark perhaps -/
theorem torn_mark (hr : r.ok) {ss : List Stk} (hs : ∀ s ∈ ss, s = (t, 6 * (k : Int), g)) (m : May (land F (stks t (6 * k + 1) r.cells)) ss F') : Torn F F' t k r g := by
  have hl := hr.len
  have key : ∀ t' x, F' t' x = land F (stks t (6 * k + 1) r.cells) t' x ∨ (t' = t ∧ x = 6 * (k : Int) ∧ F' t' x = g) := fun t' x => by
    rcases m t' x with e | ⟨v, e, ev⟩
    · exact .inl e
    · have := hs _ e
      cases this
      exact .inr ⟨rfl, rfl, ev⟩
  have out : ∀ t' x, ¬ (t' = t ∧ 6 * (k : Int) ≤ x ∧ x ≤ 6 * k + 5) → F' t' x = F t' x := fun t' x hn => by
    rcases key t' x with e | e
    · rw [e]
      exact land_stks_out _ _ _ fun z => hn ⟨z.1, by omega, by have := z.2.2; rw [hl] at this; omega⟩
    · exact absurd ⟨e.1, by omega, by omega⟩ hn
  have row : rowAt (F' t) k = r.cells := by
    rw [← land_row (F := F) (t := t) (k := k) hr]
    unfold rowAt
    have at_ : ∀ x : Int, x ≠ 6 * k → F' t x = land F (stks t (6 * k + 1) r.cells) t x := fun x hx => by
      rcases key t x with e | e
      · exact e
      · exact absurd e.2.1 hx
    rw [at_ _ (by omega), at_ _ (by omega), at_ _ (by omega), at_ _ (by omega), at_ _ (by omega)]
  refine ⟨fun t' ht => ?_, fun x hx => out t x (by omega), .inr (row_head row), ?_⟩
  · funext x
    exact out t' x fun z => ht z.1
  · rcases key t (6 * k) with e | e
    · left
      rw [e]
      exact land_stks_out _ _ _ fun z => by omega
    · exact .inr ⟨e.2.2, row⟩
theorem full_mark (hr : r.ok) : Full F (land1 (land F (stks t (6 * k + 1) r.cells)) (t, 6 * (k : Int), g)) t k r g := by
  have m : May (land F (stks t (6 * k + 1) r.cells)) [(t, 6 * (k : Int), g)] (land1 (land F (stks t (6 * k + 1) r.cells)) (t, 6 * (k : Int), g)) := land_may [(t, 6 * (k : Int), g)] _ _ fun s hs => hs
  have T := torn_mark hr (fun s hs => List.mem_singleton.mp hs) m
  have e : land1 (land F (stks t (6 * k + 1) r.cells)) (t, 6 * (k : Int), g) t (6 * k) = g := if_pos ⟨rfl, rfl⟩
  refine T.full e ?_
  exact (rowAt_congr2 fun x hx => if_neg fun z => hx z.2).trans (land_row (F := F) (t := t) (k := k) hr)
end
end PB

namespace PB
open PySem PySem.Spec PyProof.Rows L2
/-- what the top has left, for a walk -/
structure Ev (K : PySem.W.Frag) (mg : Str → Option Value) : Prop where
  s : SaysP K
  h : ∃ h : Heap, K.In h ∧ h.Ns mainGlobals mg
section
variable {K : PySem.W.Frag} {mg : Str → Option Value}
theorem Ev.g_is_integer (T : Ev K mg) : mg "is_integer" = some (.ref (He.ga K "is_integer")) := let ⟨_, k, g⟩ := T.h; He.glo_ok k g (T.s.1.fact 0 rfl)
theorem Ev.g_is_within (T : Ev K mg) : mg "is_within" = some (.ref (He.ga K "is_within")) := let ⟨_, k, g⟩ := T.h; He.glo_ok k g (T.s.1.fact 1 rfl)
theorem Ev.g_are_integers (T : Ev K mg) : mg "are_integers" = some (.ref (He.ga K "are_integers")) := let ⟨_, k, g⟩ := T.h; He.glo_ok k g (T.s.1.fact 2 rfl)
theorem Ev.g_is_lot (T : Ev K mg) : mg "is_lot" = some (.ref (He.ga K "is_lot")) := let ⟨_, k, g⟩ := T.h; He.glo_ok k g (T.s.1.fact 3 rfl)
theorem Ev.g_need_number (T : Ev K mg) : mg "need_number" = some (.ref (He.ga K "need_number")) := let ⟨_, k, g⟩ := T.h; He.glo_ok k g (T.s.1.fact 4 rfl)
theorem Ev.g_need_track (T : Ev K mg) : mg "need_track" = some (.ref (He.ga K "need_track")) := let ⟨_, k, g⟩ := T.h; He.glo_ok k g (T.s.1.fact 5 rfl)
theorem Ev.g_need_cell (T : Ev K mg) : mg "need_cell" = some (.ref (He.ga K "need_cell")) := let ⟨_, k, g⟩ := T.h; He.glo_ok k g (T.s.1.fact 6 rfl)
theorem Ev.g_most_from (T : Ev K mg) : mg "most_from" = some (.ref (He.ga K "most_from")) := let ⟨_, k, g⟩ := T.h; He.glo_ok k g (T.s.1.fact 7 rfl)
theorem Ev.g_are_values (T : Ev K mg) : mg "are_values" = some (.ref (He.ga K "are_values")) := let ⟨_, k, g⟩ := T.h; He.glo_ok k g (T.s.1.fact 8 rfl)
theorem Ev.g_landed (T : Ev K mg) : mg "landed" = some (.ref (He.ga K "landed")) := let ⟨_, k, g⟩ := T.h; He.glo_ok k g (T.s.1.fact 9 rfl)
theorem Ev.g_pairs_in (T : Ev K mg) : mg "pairs_in" = some (.ref (He.ga K "pairs_in")) := let ⟨_, k, g⟩ := T.h; He.glo_ok k g (T.s.1.fact 10 rfl)
theorem Ev.g_need_disk (T : Ev K mg) : mg "need_disk" = some (.ref (He.ga K "need_disk")) := let ⟨_, k, g⟩ := T.h; He.glo_ok k g (T.s.1.fact 11 rfl)
theorem Ev.g_chosen (T : Ev K mg) : mg "chosen" = some (.ref (He.ga K "chosen")) := let ⟨_, k, g⟩ := T.h; He.glo_ok k g (T.s.1.fact 12 rfl)
theorem Ev.g_track_of (T : Ev K mg) : mg "track_of" = some (.ref (He.ga K "track_of")) := let ⟨_, k, g⟩ := T.h; He.glo_ok k g (T.s.1.fact 13 rfl)
theorem Ev.g_row_of (T : Ev K mg) : mg "row_of" = some (.ref (He.ga K "row_of")) := let ⟨_, k, g⟩ := T.h; He.glo_ok k g (T.s.1.fact 14 rfl)
theorem Ev.g_record_in (T : Ev K mg) : mg "record_in" = some (.ref (He.ga K "record_in")) := let ⟨_, k, g⟩ := T.h; He.glo_ok k g (T.s.1.fact 15 rfl)
theorem Ev.g_rows_in (T : Ev K mg) : mg "rows_in" = some (.ref (He.ga K "rows_in")) := let ⟨_, k, g⟩ := T.h; He.glo_ok k g (T.s.1.fact 16 rfl)
theorem Ev.g_counting (T : Ev K mg) : mg "counting" = some (.ref (He.ga K "counting")) := let ⟨_, k, g⟩ := T.h; He.glo_ok k g (T.s.1.fact 17 rfl)
theorem Ev.g_without_whole (T : Ev K mg) : mg "without_whole" = some (.ref (He.ga K "without_whole")) := let ⟨_, k, g⟩ := T.h; He.glo_ok k g (T.s.1.fact 18 rfl)
theorem Ev.g_is_record (T : Ev K mg) : mg "is_record" = some (.ref (He.ga K "is_record")) := let ⟨_, k, g⟩ := T.h; He.glo_ok k g (T.s.1.fact 19 rfl)
theorem Ev.g_are_records (T : Ev K mg) : mg "are_records" = some (.ref (He.ga K "are_records")) := let ⟨_, k, g⟩ := T.h; He.glo_ok k g (T.s.1.fact 20 rfl)
theorem Ev.g_meant (T : Ev K mg) : mg "meant" = some (.ref (He.ga K "meant")) := let ⟨_, k, g⟩ := T.h; He.glo_ok k g (T.s.1.fact 21 rfl)
theorem Ev.g_law_nook (T : Ev K mg) : mg "_law_nook" = some (.ref (He.ga K "_law_nook")) := let ⟨_, k, g⟩ := T.h; He.glo_ok k g (T.s.1.fact 22 rfl)
theorem Ev.g_law_reach (T : Ev K mg) : mg "_law_reach" = some (.ref (He.ga K "_law_reach")) := let ⟨_, k, g⟩ := T.h; He.glo_ok k g (T.s.1.fact 23 rfl)
theorem Ev.g_law_pick (T : Ev K mg) : mg "_law_pick" = some (.ref (He.ga K "_law_pick")) := let ⟨_, k, g⟩ := T.h; He.glo_ok k g (T.s.1.fact 24 rfl)
theorem Ev.g_law_words (T : Ev K mg) : mg "_law_words" = some (.ref (He.ga K "_law_words")) := let ⟨_, k, g⟩ := T.h; He.glo_ok k g (T.s.1.fact 25 rfl)
theorem Ev.g_law_record (T : Ev K mg) : mg "_law_record" = some (.ref (He.ga K "_law_record")) := let ⟨_, k, g⟩ := T.h; He.glo_ok k g (T.s.1.fact 26 rfl)
theorem Ev.g_law_row (T : Ev K mg) : mg "_law_row" = some (.ref (He.ga K "_law_row")) := let ⟨_, k, g⟩ := T.h; He.glo_ok k g (T.s.1.fact 27 rfl)
theorem Ev.g_law_track (T : Ev K mg) : mg "_law_track" = some (.ref (He.ga K "_law_track")) := let ⟨_, k, g⟩ := T.h; He.glo_ok k g (T.s.1.fact 28 rfl)
theorem Ev.g_law_read (T : Ev K mg) : mg "_law_read" = some (.ref (He.ga K "_law_read")) := let ⟨_, k, g⟩ := T.h; He.glo_ok k g (T.s.1.fact 29 rfl)
theorem Ev.g_law_lot (T : Ev K mg) : mg "_law_lot" = some (.ref (He.ga K "_law_lot")) := let ⟨_, k, g⟩ := T.h; He.glo_ok k g (T.s.1.fact 30 rfl)
theorem Ev.g_law_done (T : Ev K mg) : mg "_law_done" = some (.ref (He.ga K "_law_done")) := let ⟨_, k, g⟩ := T.h; He.glo_ok k g (T.s.1.fact 31 rfl)
theorem Ev.g_law_stands (T : Ev K mg) : mg "_law_stands" = some (.ref (He.ga K "_law_stands")) := let ⟨_, k, g⟩ := T.h; He.glo_ok k g (T.s.1.fact 32 rfl)
theorem Ev.g_law (T : Ev K mg) : mg "law" = some (.ref (He.ga K "law")) := let ⟨_, k, g⟩ := T.h; He.glo_ok k g (T.s.1.fact 33 rfl)
theorem Ev.g_Disk (T : Ev K mg) : mg "Disk" = some (.ref (He.ga K "Disk")) := let ⟨_, k, g⟩ := T.h; He.glo_ok k g (T.s.1.fact 34 rfl)
theorem Ev.g_Book (T : Ev K mg) : mg "Book" = some (.ref (He.ga K "Book")) := let ⟨_, k, g⟩ := T.h; He.glo_ok k g (T.s.1.fact 35 rfl)
theorem Ev.g_Out (T : Ev K mg) : mg "Out" = some (.ref (He.ga K "Out")) := let ⟨_, k, g⟩ := T.h; He.glo_ok k g (T.s.1.fact 36 rfl)
theorem Ev.g_WORDS (T : Ev K mg) : mg "WORDS" = some (.ref (He.ga K "WORDS")) := let ⟨_, k, g⟩ := T.h; He.glo_ok k g (T.s.1.fact 37 rfl)
theorem Ev.g_NUMBERS (T : Ev K mg) : mg "NUMBERS" = some (.ref (He.ga K "NUMBERS")) := let ⟨_, k, g⟩ := T.h; He.glo_ok k g (T.s.1.fact 38 rfl)
theorem Ev.g_WHOLE (T : Ev K mg) : mg "WHOLE" = some (.ref (He.ga K "WHOLE")) := let ⟨_, k, g⟩ := T.h; He.glo_ok k g (T.s.1.fact 39 rfl)
theorem Ev.g_BOOK_TRACKS (T : Ev K mg) : mg "BOOK_TRACKS" = some (.ref (He.ga K "BOOK_TRACKS")) := let ⟨_, k, g⟩ := T.h; He.glo_ok k g (T.s.1.fact 40 rfl)
theorem Ev.f_isinstance (T : Ev K mg) : mg "isinstance" = none := let ⟨_, k, g⟩ := T.h; He.free_ok k g (T.s.1.fact 41 rfl)
theorem Ev.f_int (T : Ev K mg) : mg "int" = none := let ⟨_, k, g⟩ := T.h; He.free_ok k g (T.s.1.fact 42 rfl)
theorem Ev.f_bool (T : Ev K mg) : mg "bool" = none := let ⟨_, k, g⟩ := T.h; He.free_ok k g (T.s.1.fact 43 rfl)
theorem Ev.f_list (T : Ev K mg) : mg "list" = none := let ⟨_, k, g⟩ := T.h; He.free_ok k g (T.s.1.fact 44 rfl)
theorem Ev.f_tuple (T : Ev K mg) : mg "tuple" = none := let ⟨_, k, g⟩ := T.h; He.free_ok k g (T.s.1.fact 45 rfl)
theorem Ev.f_all (T : Ev K mg) : mg "all" = none := let ⟨_, k, g⟩ := T.h; He.free_ok k g (T.s.1.fact 46 rfl)
theorem Ev.f_len (T : Ev K mg) : mg "len" = none := let ⟨_, k, g⟩ := T.h; He.free_ok k g (T.s.1.fact 47 rfl)
theorem Ev.f_zip (T : Ev K mg) : mg "zip" = none := let ⟨_, k, g⟩ := T.h; He.free_ok k g (T.s.1.fact 48 rfl)
theorem Ev.f_min (T : Ev K mg) : mg "min" = none := let ⟨_, k, g⟩ := T.h; He.free_ok k g (T.s.1.fact 49 rfl)
theorem Ev.f_sorted (T : Ev K mg) : mg "sorted" = none := let ⟨_, k, g⟩ := T.h; He.free_ok k g (T.s.1.fact 50 rfl)
theorem Ev.f_dict (T : Ev K mg) : mg "dict" = none := let ⟨_, k, g⟩ := T.h; He.free_ok k g (T.s.1.fact 51 rfl)
theorem Ev.f_enumerate (T : Ev K mg) : mg "enumerate" = none := let ⟨_, k, g⟩ := T.h; He.free_ok k g (T.s.1.fact 52 rfl)
theorem Ev.f_range (T : Ev K mg) : mg "range" = none := let ⟨_, k, g⟩ := T.h; He.free_ok k g (T.s.1.fact 53 rfl)
theorem Ev.f_max (T : Ev K mg) : mg "max" = none := let ⟨_, k, g⟩ := T.h; He.free_ok k g (T.s.1.fact 54 rfl)
theorem Ev.f_abs (T : Ev K mg) : mg "abs" = none := let ⟨_, k, g⟩ := T.h; He.free_ok k g (T.s.1.fact 55 rfl)
theorem Ev.f_repr (T : Ev K mg) : mg "repr" = none := let ⟨_, k, g⟩ := T.h; He.free_ok k g (T.s.1.fact 56 rfl)
theorem Ev.f_str (T : Ev K mg) : mg "str" = none := let ⟨_, k, g⟩ := T.h; He.free_ok k g (T.s.1.fact 57 rfl)
theorem Ev.i_TRACKS (T : Ev K mg) : ∃ t, mg "TRACKS" = some (.int 3 t) := let ⟨_, k, g⟩ := T.h; He.int_ok k g (T.s.1.fact 58 rfl)
theorem Ev.i_LAST_CELL (T : Ev K mg) : ∃ t, mg "LAST_CELL" = some (.int 10000000 t) := let ⟨_, k, g⟩ := T.h; He.int_ok k g (T.s.1.fact 59 rfl)
theorem Ev.i_MOST_IN_CELL (T : Ev K mg) : ∃ t, mg "MOST_IN_CELL" = some (.int 9223372036854775807 t) := let ⟨_, k, g⟩ := T.h; He.int_ok k g (T.s.1.fact 60 rfl)
theorem Ev.i_MOST_CELLS (T : Ev K mg) : ∃ t, mg "MOST_CELLS" = some (.int 4096 t) := let ⟨_, k, g⟩ := T.h; He.int_ok k g (T.s.1.fact 61 rfl)
theorem Ev.i_CELLS (T : Ev K mg) : ∃ t, mg "CELLS" = some (.int 6 t) := let ⟨_, k, g⟩ := T.h; He.int_ok k g (T.s.1.fact 62 rfl)
theorem Ev.i_MOST_NUMBERS (T : Ev K mg) : ∃ t, mg "MOST_NUMBERS" = some (.int 4 t) := let ⟨_, k, g⟩ := T.h; He.int_ok k g (T.s.1.fact 63 rfl)
theorem Ev.c_Disk (T : Ev K mg) : Cls K (He.ga K "Disk") := He.cls_ok (T.s.1.fact 64 rfl)
theorem Ev.c_Book (T : Ev K mg) : Cls K (He.ga K "Book") := He.cls_ok (T.s.1.fact 65 rfl)
theorem Ev.nD_cells (T : Ev K mg) : NoAttr K (He.ga K "Disk") "cells" := He.noat_ok (T.s.1.fact 66 rfl)
theorem Ev.nD_strokes (T : Ev K mg) : NoAttr K (He.ga K "Disk") "strokes" := He.noat_ok (T.s.1.fact 67 rfl)
theorem Ev.nD_fresh (T : Ev K mg) : NoAttr K (He.ga K "Disk") "fresh" := He.noat_ok (T.s.1.fact 68 rfl)
theorem Ev.nD_left (T : Ev K mg) : NoAttr K (He.ga K "Disk") "left" := He.noat_ok (T.s.1.fact 69 rfl)
theorem Ev.nB_disk (T : Ev K mg) : NoAttr K (He.ga K "Book") "disk" := He.noat_ok (T.s.1.fact 70 rfl)
theorem Ev.nB_generation (T : Ev K mg) : NoAttr K (He.ga K "Book") "generation" := He.noat_ok (T.s.1.fact 71 rfl)
theorem Ev.nB_added (T : Ev K mg) : NoAttr K (He.ga K "Book") "added" := He.noat_ok (T.s.1.fact 72 rfl)
theorem Ev.nB_told (T : Ev K mg) : NoAttr K (He.ga K "Book") "_told" := He.noat_ok (T.s.1.fact 73 rfl)
theorem Ev.nB_rows (T : Ev K mg) : NoAttr K (He.ga K "Book") "_rows" := He.noat_ok (T.s.1.fact 74 rfl)
theorem Ev.mD_init (T : Ev K mg) : Meth K (He.ga K "Disk") "__init__" (He.ma K (He.ga K "Disk") "__init__") := He.meth_ok (T.s.1.fact 75 rfl)
theorem Ev.mD_spend (T : Ev K mg) : Meth K (He.ga K "Disk") "spend" (He.ma K (He.ga K "Disk") "spend") := He.meth_ok (T.s.1.fact 76 rfl)
theorem Ev.mD_settle (T : Ev K mg) : Meth K (He.ga K "Disk") "settle" (He.ma K (He.ga K "Disk") "settle") := He.meth_ok (T.s.1.fact 77 rfl)
theorem Ev.mD_write (T : Ev K mg) : Meth K (He.ga K "Disk") "write" (He.ma K (He.ga K "Disk") "write") := He.meth_ok (T.s.1.fact 78 rfl)
theorem Ev.mD_flush (T : Ev K mg) : Meth K (He.ga K "Disk") "flush" (He.ma K (He.ga K "Disk") "flush") := He.meth_ok (T.s.1.fact 79 rfl)
theorem Ev.mD_read (T : Ev K mg) : Meth K (He.ga K "Disk") "read" (He.ma K (He.ga K "Disk") "read") := He.meth_ok (T.s.1.fact 80 rfl)
theorem Ev.mD_kept (T : Ev K mg) : Meth K (He.ga K "Disk") "kept" (He.ma K (He.ga K "Disk") "kept") := He.meth_ok (T.s.1.fact 81 rfl)
theorem Ev.mD_waiting (T : Ev K mg) : Meth K (He.ga K "Disk") "waiting" (He.ma K (He.ga K "Disk") "waiting") := He.meth_ok (T.s.1.fact 82 rfl)
theorem Ev.mD_cut (T : Ev K mg) : Meth K (He.ga K "Disk") "cut" (He.ma K (He.ga K "Disk") "cut") := He.meth_ok (T.s.1.fact 83 rfl)
theorem Ev.mD_fuse (T : Ev K mg) : Meth K (He.ga K "Disk") "fuse" (He.ma K (He.ga K "Disk") "fuse") := He.meth_ok (T.s.1.fact 84 rfl)
theorem Ev.mD_no_fuse (T : Ev K mg) : Meth K (He.ga K "Disk") "no_fuse" (He.ma K (He.ga K "Disk") "no_fuse") := He.meth_ok (T.s.1.fact 85 rfl)
theorem Ev.mB_init (T : Ev K mg) : Meth K (He.ga K "Book") "__init__" (He.ma K (He.ga K "Book") "__init__") := He.meth_ok (T.s.1.fact 86 rfl)
theorem Ev.mB_records (T : Ev K mg) : Meth K (He.ga K "Book") "records" (He.ma K (He.ga K "Book") "records") := He.meth_ok (T.s.1.fact 87 rfl)
theorem Ev.mB_write (T : Ev K mg) : Meth K (He.ga K "Book") "_write" (He.ma K (He.ga K "Book") "_write") := He.meth_ok (T.s.1.fact 88 rfl)
theorem Ev.mB_add (T : Ev K mg) : Meth K (He.ga K "Book") "add" (He.ma K (He.ga K "Book") "add") := He.meth_ok (T.s.1.fact 89 rfl)
theorem Ev.mB_next (T : Ev K mg) : Meth K (He.ga K "Book") "_next" (He.ma K (He.ga K "Book") "_next") := He.meth_ok (T.s.1.fact 90 rfl)
theorem Ev.mB_turn (T : Ev K mg) : Meth K (He.ga K "Book") "turn" (He.ma K (He.ga K "Book") "turn") := He.meth_ok (T.s.1.fact 91 rfl)
theorem Ev.k_Disk (T : Ev K mg) : Mk K (He.ga K "Disk") (He.ma K (He.ga K "Disk") "__init__") := He.mkr_ok (T.s.1.fact 92 rfl)
theorem Ev.k_Book (T : Ev K mg) : Mk K (He.ga K "Book") (He.ma K (He.ga K "Book") "__init__") := He.mkr_ok (T.s.1.fact 93 rfl)
theorem Ev.x_Out (T : Ev K mg) : PySem.W.excIn K (He.ga K "Out") He.veBase "ValueError.__new__" = true ∧ PySem.W.keepIn K (.ref (He.ga K "Out")) = true ∧ PySem.W.subIn K (.ref (He.ga K "Out")) (.type "BaseException") = some true ∧ PySem.W.typeIn K (.ref (He.ga K "Out")) = some (.type "type") := He.exc_ok (T.s.1.fact 94 rfl)
theorem Ev.xm_Out (T : Ev K mg) : PySem.W.exmOne K (.ref (He.ga K "Out")) (.ref (He.ga K "Out")) = some true := He.exm_ok (T.s.1.fact 95 rfl)
theorem cs_is_integer : FnScope ["value"] ["value"] (defScope s_is_integer) := ⟨rfl, rfl, rfl, by decide +kernel, rfl, by decide +kernel, by decide +kernel⟩
theorem Ev.ds_is_integer (T : Ev K mg) : ∃ fd, FnP K "is_integer" s_is_integer (He.ga K "is_integer") fd ∧ Binds K fd ["value"] [] := by
  obtain ⟨fd, F⟩ := T.s.1.def_ 0 rfl
  exact ⟨fd, F, FunD.bindsN F fun kV doc pm an cdv ct us hl => by
    match us, hl with
    | [_], _ => rfl⟩
theorem cs_is_within : FnScope ["value", "least", "most"] ["value", "least", "most"] (defScope s_is_within) := ⟨rfl, rfl, rfl, by decide +kernel, rfl, by decide +kernel, by decide +kernel⟩
theorem Ev.ds_is_within (T : Ev K mg) : ∃ fd, FnP K "is_within" s_is_within (He.ga K "is_within") fd ∧ Binds K fd ["value", "least", "most"] [] := by
  obtain ⟨fd, F⟩ := T.s.1.def_ 1 rfl
  exact ⟨fd, F, FunD.bindsN F fun kV doc pm an cdv ct us hl => by
    match us, hl with
    | [_, _, _], _ => rfl⟩
theorem cs_are_integers : FnScope ["value", "each"] ["value"] (defScope s_are_integers) := ⟨rfl, rfl, rfl, by decide +kernel, rfl, by decide +kernel, by decide +kernel⟩
theorem Ev.ds_are_integers (T : Ev K mg) : ∃ fd, FnP K "are_integers" s_are_integers (He.ga K "are_integers") fd ∧ Binds K fd ["value"] [] := by
  obtain ⟨fd, F⟩ := T.s.1.def_ 2 rfl
  exact ⟨fd, F, FunD.bindsN F fun kV doc pm an cdv ct us hl => by
    match us, hl with
    | [_], _ => rfl⟩
theorem cs_is_lot : FnScope ["value", "many", "each", "one", "other"] ["value", "many"] (defScope s_is_lot) := ⟨rfl, rfl, rfl, by decide +kernel, rfl, by decide +kernel, by decide +kernel⟩
theorem Ev.ds_is_lot (T : Ev K mg) : ∃ fd, FnP K "is_lot" s_is_lot (He.ga K "is_lot") fd ∧ Binds K fd ["value", "many"] [] := by
  obtain ⟨fd, F⟩ := T.s.1.def_ 3 rfl
  exact ⟨fd, F, FunD.bindsN F fun kV doc pm an cdv ct us hl => by
    match us, hl with
    | [_, _], _ => rfl⟩
theorem cs_need_number : FnScope ["value", "part", "least", "most"] ["value", "part", "least", "most"] (defScope s_need_number) := ⟨rfl, rfl, rfl, by decide +kernel, rfl, by decide +kernel, by decide +kernel⟩
theorem Ev.ds_need_number (T : Ev K mg) : ∃ fd, FnP K "need_number" s_need_number (He.ga K "need_number") fd ∧ Binds K fd ["value", "part", "least", "most"] [] := by
  obtain ⟨fd, F⟩ := T.s.1.def_ 4 rfl
  exact ⟨fd, F, FunD.bindsN F fun kV doc pm an cdv ct us hl => by
    match us, hl with
    | [_, _, _, _], _ => rfl⟩
theorem cs_need_track : FnScope ["value"] ["value"] (defScope s_need_track) := ⟨rfl, rfl, rfl, by decide +kernel, rfl, by decide +kernel, by decide +kernel⟩
theorem Ev.ds_need_track (T : Ev K mg) : ∃ fd, FnP K "need_track" s_need_track (He.ga K "need_track") fd ∧ Binds K fd ["value"] [] := by
  obtain ⟨fd, F⟩ := T.s.1.def_ 5 rfl
  exact ⟨fd, F, FunD.bindsN F fun kV doc pm an cdv ct us hl => by
    match us, hl with
    | [_], _ => rfl⟩
theorem cs_need_cell : FnScope ["value"] ["value"] (defScope s_need_cell) := ⟨rfl, rfl, rfl, by decide +kernel, rfl, by decide +kernel, by decide +kernel⟩
theorem Ev.ds_need_cell (T : Ev K mg) : ∃ fd, FnP K "need_cell" s_need_cell (He.ga K "need_cell") fd ∧ Binds K fd ["value"] [] := by
  obtain ⟨fd, F⟩ := T.s.1.def_ 6 rfl
  exact ⟨fd, F, FunD.bindsN F fun kV doc pm an cdv ct us hl => by
    match us, hl with
    | [_], _ => rfl⟩
theorem cs_most_from : FnScope ["at"] ["at"] (defScope s_most_from) := ⟨rfl, rfl, rfl, by decide +kernel, rfl, by decide +kernel, by decide +kernel⟩
theorem Ev.ds_most_from (T : Ev K mg) : ∃ fd, FnP K "most_from" s_most_from (He.ga K "most_from") fd ∧ Binds K fd ["at"] [] := by
  obtain ⟨fd, F⟩ := T.s.1.def_ 7 rfl
  exact ⟨fd, F, FunD.bindsN F fun kV doc pm an cdv ct us hl => by
    match us, hl with
    | [_], _ => rfl⟩
theorem cs_are_values : FnScope ["value", "most", "each"] ["value", "most"] (defScope s_are_values) := ⟨rfl, rfl, rfl, by decide +kernel, rfl, by decide +kernel, by decide +kernel⟩
theorem Ev.ds_are_values (T : Ev K mg) : ∃ fd, FnP K "are_values" s_are_values (He.ga K "are_values") fd ∧ Binds K fd ["value", "most"] [] := by
  obtain ⟨fd, F⟩ := T.s.1.def_ 8 rfl
  exact ⟨fd, F, FunD.bindsN F fun kV doc pm an cdv ct us hl => by
    match us, hl with
    | [_, _], _ => rfl⟩
theorem cs_landed : FnScope ["cells", "strokes", "track", "found", "at", "value"] ["cells", "strokes"] (defScope s_landed) := ⟨rfl, rfl, rfl, by decide +kernel, rfl, by decide +kernel, by decide +kernel⟩
theorem Ev.ds_landed (T : Ev K mg) : ∃ fd, FnP K "landed" s_landed (He.ga K "landed") fd ∧ Binds K fd ["cells", "strokes"] [] := by
  obtain ⟨fd, F⟩ := T.s.1.def_ 9 rfl
  exact ⟨fd, F, FunD.bindsN F fun kV doc pm an cdv ct us hl => by
    match us, hl with
    | [_, _], _ => rfl⟩
theorem cs_pairs_in : FnScope ["track", "at", "value"] ["track"] (defScope s_pairs_in) := ⟨rfl, rfl, rfl, by decide +kernel, rfl, by decide +kernel, by decide +kernel⟩
theorem Ev.ds_pairs_in (T : Ev K mg) : ∃ fd, FnP K "pairs_in" s_pairs_in (He.ga K "pairs_in") fd ∧ Binds K fd ["track"] [] := by
  obtain ⟨fd, F⟩ := T.s.1.def_ 10 rfl
  exact ⟨fd, F, FunD.bindsN F fun kV doc pm an cdv ct us hl => by
    match us, hl with
    | [_], _ => rfl⟩
theorem cs_need_disk : FnScope ["value", "part"] ["value", "part"] (defScope s_need_disk) := ⟨rfl, rfl, rfl, by decide +kernel, rfl, by decide +kernel, by decide +kernel⟩
theorem Ev.ds_need_disk (T : Ev K mg) : ∃ fd, FunD K "need_disk" "need_disk" (defArgs s_need_disk) (defBody s_need_disk) (defScope s_need_disk) [.str "disk"] [] (He.ga K "need_disk") fd ∧ ∃ ds, Vals [V.str "disk"] ds ∧ Binds K fd ["value", "part"] ds := by
  obtain ⟨fd, F⟩ := T.s.1.def_ 11 rfl
  exact ⟨fd, F, F.binds1 1 0 (fun z => nomatch z) rfl fun T kV doc pm an cdv ct us its h1 h2 => by
    match us, its, h1, h2 with
    | [_], [_], _, _ => exact ⟨_, rfl, rfl⟩⟩
theorem cs_chosen : FnScope ["disk", "lands", "number"] ["disk", "lands"] (defScope s_chosen) := ⟨rfl, rfl, rfl, by decide +kernel, rfl, by decide +kernel, by decide +kernel⟩
theorem Ev.ds_chosen (T : Ev K mg) : ∃ fd, FnP K "chosen" s_chosen (He.ga K "chosen") fd ∧ Binds K fd ["disk", "lands"] [] := by
  obtain ⟨fd, F⟩ := T.s.1.def_ 12 rfl
  exact ⟨fd, F, FunD.bindsN F fun kV doc pm an cdv ct us hl => by
    match us, hl with
    | [_, _], _ => rfl⟩
theorem cs_track_of : FnScope ["generation"] ["generation"] (defScope s_track_of) := ⟨rfl, rfl, rfl, by decide +kernel, rfl, by decide +kernel, by decide +kernel⟩
theorem Ev.ds_track_of (T : Ev K mg) : ∃ fd, FnP K "track_of" s_track_of (He.ga K "track_of") fd ∧ Binds K fd ["generation"] [] := by
  obtain ⟨fd, F⟩ := T.s.1.def_ 13 rfl
  exact ⟨fd, F, FunD.bindsN F fun kV doc pm an cdv ct us hl => by
    match us, hl with
    | [_], _ => rfl⟩
theorem cs_row_of : FnScope ["record", "mark", "numbers"] ["record", "mark"] (defScope s_row_of) := ⟨rfl, rfl, rfl, by decide +kernel, rfl, by decide +kernel, by decide +kernel⟩
theorem Ev.ds_row_of (T : Ev K mg) : ∃ fd, FnP K "row_of" s_row_of (He.ga K "row_of") fd ∧ Binds K fd ["record", "mark"] [] := by
  obtain ⟨fd, F⟩ := T.s.1.def_ 14 rfl
  exact ⟨fd, F, FunD.bindsN F fun kV doc pm an cdv ct us hl => by
    match us, hl with
    | [_, _], _ => rfl⟩
theorem cs_record_in : FnScope ["row", "record"] ["row"] (defScope s_record_in) := ⟨rfl, rfl, rfl, by decide +kernel, rfl, by decide +kernel, by decide +kernel⟩
theorem Ev.ds_record_in (T : Ev K mg) : ∃ fd, FnP K "record_in" s_record_in (He.ga K "record_in") fd ∧ Binds K fd ["row"] [] := by
  obtain ⟨fd, F⟩ := T.s.1.def_ 15 rfl
  exact ⟨fd, F, FunD.bindsN F fun kV doc pm an cdv ct us hl => by
    match us, hl with
    | [_], _ => rfl⟩
theorem cs_rows_in : FnScope ["cells", "track", "mark", "found", "first", "row", "record", "spot"] ["cells", "track"] (defScope s_rows_in) := ⟨rfl, rfl, rfl, by decide +kernel, rfl, by decide +kernel, by decide +kernel⟩
theorem Ev.ds_rows_in (T : Ev K mg) : ∃ fd, FnP K "rows_in" s_rows_in (He.ga K "rows_in") fd ∧ Binds K fd ["cells", "track"] [] := by
  obtain ⟨fd, F⟩ := T.s.1.def_ 16 rfl
  exact ⟨fd, F, FunD.bindsN F fun kV doc pm an cdv ct us hl => by
    match us, hl with
    | [_, _], _ => rfl⟩
theorem cs_counting : FnScope ["disk", "books", "wholes", "track", "book"] ["disk"] (defScope s_counting) := ⟨rfl, rfl, rfl, by decide +kernel, rfl, by decide +kernel, by decide +kernel⟩
theorem Ev.ds_counting (T : Ev K mg) : ∃ fd, FnP K "counting" s_counting (He.ga K "counting") fd ∧ Binds K fd ["disk"] [] := by
  obtain ⟨fd, F⟩ := T.s.1.def_ 17 rfl
  exact ⟨fd, F, FunD.bindsN F fun kV doc pm an cdv ct us hl => by
    match us, hl with
    | [_], _ => rfl⟩
theorem cs_without_whole : FnScope ["rows", "record"] ["rows"] (defScope s_without_whole) := ⟨rfl, rfl, rfl, by decide +kernel, rfl, by decide +kernel, by decide +kernel⟩
theorem Ev.ds_without_whole (T : Ev K mg) : ∃ fd, FnP K "without_whole" s_without_whole (He.ga K "without_whole") fd ∧ Binds K fd ["rows"] [] := by
  obtain ⟨fd, F⟩ := T.s.1.def_ 18 rfl
  exact ⟨fd, F, FunD.bindsN F fun kV doc pm an cdv ct us hl => by
    match us, hl with
    | [_], _ => rfl⟩
theorem cs_is_record : FnScope ["value", "number"] ["value"] (defScope s_is_record) := ⟨rfl, rfl, rfl, by decide +kernel, rfl, by decide +kernel, by decide +kernel⟩
theorem Ev.ds_is_record (T : Ev K mg) : ∃ fd, FnP K "is_record" s_is_record (He.ga K "is_record") fd ∧ Binds K fd ["value"] [] := by
  obtain ⟨fd, F⟩ := T.s.1.def_ 19 rfl
  exact ⟨fd, F, FunD.bindsN F fun kV doc pm an cdv ct us hl => by
    match us, hl with
    | [_], _ => rfl⟩
theorem cs_are_records : FnScope ["value", "record"] ["value"] (defScope s_are_records) := ⟨rfl, rfl, rfl, by decide +kernel, rfl, by decide +kernel, by decide +kernel⟩
theorem Ev.ds_are_records (T : Ev K mg) : ∃ fd, FnP K "are_records" s_are_records (He.ga K "are_records") fd ∧ Binds K fd ["value"] [] := by
  obtain ⟨fd, F⟩ := T.s.1.def_ 20 rfl
  exact ⟨fd, F, FunD.bindsN F fun kV doc pm an cdv ct us hl => by
    match us, hl with
    | [_], _ => rfl⟩
theorem cs_meant : FnScope ["disk"] ["disk"] (defScope s_meant) := ⟨rfl, rfl, rfl, by decide +kernel, rfl, by decide +kernel, by decide +kernel⟩
theorem Ev.ds_meant (T : Ev K mg) : ∃ fd, FnP K "meant" s_meant (He.ga K "meant") fd ∧ Binds K fd ["disk"] [] := by
  obtain ⟨fd, F⟩ := T.s.1.def_ 21 rfl
  exact ⟨fd, F, FunD.bindsN F fun kV doc pm an cdv ct us hl => by
    match us, hl with
    | [_], _ => rfl⟩
theorem cs_law_nook : FnScope ["_law_script", "_law_cell"] ["_law_script"] (defScope s_law_nook) := ⟨rfl, rfl, rfl, by decide +kernel, rfl, by decide +kernel, by decide +kernel⟩
theorem Ev.ds_law_nook (T : Ev K mg) : ∃ fd, FnP K "_law_nook" s_law_nook (He.ga K "_law_nook") fd ∧ Binds K fd ["_law_script"] [] := by
  obtain ⟨fd, F⟩ := T.s.1.def_ 22 rfl
  exact ⟨fd, F, FunD.bindsN F fun kV doc pm an cdv ct us hl => by
    match us, hl with
    | [_], _ => rfl⟩
theorem cs_law_reach : FnScope ["_law_nook_here", "_law_many", "_law_left", "_law_turn", "_law_cell", "_law_mixed"] ["_law_nook_here", "_law_many"] (defScope s_law_reach) := ⟨rfl, rfl, rfl, by decide +kernel, rfl, by decide +kernel, by decide +kernel⟩
theorem Ev.ds_law_reach (T : Ev K mg) : ∃ fd, FnP K "_law_reach" s_law_reach (He.ga K "_law_reach") fd ∧ Binds K fd ["_law_nook_here", "_law_many"] [] := by
  obtain ⟨fd, F⟩ := T.s.1.def_ 23 rfl
  exact ⟨fd, F, FunD.bindsN F fun kV doc pm an cdv ct us hl => by
    match us, hl with
    | [_, _], _ => rfl⟩
theorem cs_law_pick : FnScope ["_law_nook_here", "_law_some"] ["_law_nook_here", "_law_some"] (defScope s_law_pick) := ⟨rfl, rfl, rfl, by decide +kernel, rfl, by decide +kernel, by decide +kernel⟩
theorem Ev.ds_law_pick (T : Ev K mg) : ∃ fd, FnP K "_law_pick" s_law_pick (He.ga K "_law_pick") fd ∧ Binds K fd ["_law_nook_here", "_law_some"] [] := by
  obtain ⟨fd, F⟩ := T.s.1.def_ 24 rfl
  exact ⟨fd, F, FunD.bindsN F fun kV doc pm an cdv ct us hl => by
    match us, hl with
    | [_, _], _ => rfl⟩
theorem cs_law_words : FnScope ["_law_words_here"] [] (defScope s_law_words) := ⟨rfl, rfl, rfl, by decide +kernel, rfl, by decide +kernel, by decide +kernel⟩
theorem Ev.ds_law_words (T : Ev K mg) : ∃ fd, FnP K "_law_words" s_law_words (He.ga K "_law_words") fd ∧ Binds K fd [] [] := by
  obtain ⟨fd, F⟩ := T.s.1.def_ 25 rfl
  exact ⟨fd, F, FunD.bindsN F fun kV doc pm an cdv ct us hl => by
    match us, hl with
    | [], _ => rfl⟩
theorem cs_law_record : FnScope ["_law_nook_here", "_law_word", "_law_many", "_law_turn"] ["_law_nook_here"] (defScope s_law_record) := ⟨rfl, rfl, rfl, by decide +kernel, rfl, by decide +kernel, by decide +kernel⟩
theorem Ev.ds_law_record (T : Ev K mg) : ∃ fd, FnP K "_law_record" s_law_record (He.ga K "_law_record") fd ∧ Binds K fd ["_law_nook_here"] [] := by
  obtain ⟨fd, F⟩ := T.s.1.def_ 26 rfl
  exact ⟨fd, F, FunD.bindsN F fun kV doc pm an cdv ct us hl => by
    match us, hl with
    | [_], _ => rfl⟩
theorem cs_law_row : FnScope ["_law_cells", "_law_number", "_law_words_here", "_law_word", "_law_many"] ["_law_cells"] (defScope s_law_row) := ⟨rfl, rfl, rfl, by decide +kernel, rfl, by decide +kernel, by decide +kernel⟩
theorem Ev.ds_law_row (T : Ev K mg) : ∃ fd, FnP K "_law_row" s_law_row (He.ga K "_law_row") fd ∧ Binds K fd ["_law_cells"] [] := by
  obtain ⟨fd, F⟩ := T.s.1.def_ 27 rfl
  exact ⟨fd, F, FunD.bindsN F fun kV doc pm an cdv ct us hl => by
    match us, hl with
    | [_], _ => rfl⟩
theorem cs_law_track : FnScope ["_law_disk", "_law_track_here", "_law_cells", "_law_rows", "_law_mark", "_law_k", "_law_row_here", "_law_at"] ["_law_disk", "_law_track_here"] (defScope s_law_track) := ⟨rfl, rfl, rfl, by decide +kernel, rfl, by decide +kernel, by decide +kernel⟩
theorem Ev.ds_law_track (T : Ev K mg) : ∃ fd, FnP K "_law_track" s_law_track (He.ga K "_law_track") fd ∧ Binds K fd ["_law_disk", "_law_track_here"] [] := by
  obtain ⟨fd, F⟩ := T.s.1.def_ 28 rfl
  exact ⟨fd, F, FunD.bindsN F fun kV doc pm an cdv ct us hl => by
    match us, hl with
    | [_, _], _ => rfl⟩
theorem cs_law_read : FnScope ["_law_disk", "_law_found", "_law_track_here", "_law_mark", "_law_rows", "_law_behind", "_law_kept", "_law_row_here"] ["_law_disk"] (defScope s_law_read) := ⟨rfl, rfl, rfl, by decide +kernel, rfl, by decide +kernel, by decide +kernel⟩
theorem Ev.ds_law_read (T : Ev K mg) : ∃ fd, FnP K "_law_read" s_law_read (He.ga K "_law_read") fd ∧ Binds K fd ["_law_disk"] [] := by
  obtain ⟨fd, F⟩ := T.s.1.def_ 29 rfl
  exact ⟨fd, F, FunD.bindsN F fun kV doc pm an cdv ct us hl => by
    match us, hl with
    | [_], _ => rfl⟩
theorem cs_law_lot : FnScope ["_law_nook_here", "_law_many", "_law_way", "_law_cut", "_law_at"] ["_law_nook_here", "_law_many"] (defScope s_law_lot) := ⟨rfl, rfl, rfl, by decide +kernel, rfl, by decide +kernel, by decide +kernel⟩
theorem Ev.ds_law_lot (T : Ev K mg) : ∃ fd, FnP K "_law_lot" s_law_lot (He.ga K "_law_lot") fd ∧ Binds K fd ["_law_nook_here", "_law_many"] [] := by
  obtain ⟨fd, F⟩ := T.s.1.def_ 30 rfl
  exact ⟨fd, F, FunD.bindsN F fun kV doc pm an cdv ct us hl => by
    match us, hl with
    | [_, _], _ => rfl⟩
theorem cs_law_done : FnScope ["_law_book", "_law_deed"] ["_law_book", "_law_deed"] (defScope s_law_done) := ⟨rfl, rfl, rfl, by decide +kernel, rfl, by decide +kernel, by decide +kernel⟩
theorem Ev.ds_law_done (T : Ev K mg) : ∃ fd, FnP K "_law_done" s_law_done (He.ga K "_law_done") fd ∧ Binds K fd ["_law_book", "_law_deed"] [] := by
  obtain ⟨fd, F⟩ := T.s.1.def_ 31 rfl
  exact ⟨fd, F, FunD.bindsN F fun kV doc pm an cdv ct us hl => by
    match us, hl with
    | [_, _], _ => rfl⟩
theorem cs_law_stands : FnScope ["_law_disk", "_law_book", "_law_due", "_law_told"] ["_law_disk", "_law_book", "_law_due"] (defScope s_law_stands) := ⟨rfl, rfl, rfl, by decide +kernel, rfl, by decide +kernel, by decide +kernel⟩
theorem Ev.ds_law_stands (T : Ev K mg) : ∃ fd, FnP K "_law_stands" s_law_stands (He.ga K "_law_stands") fd ∧ Binds K fd ["_law_disk", "_law_book", "_law_due"] [] := by
  obtain ⟨fd, F⟩ := T.s.1.def_ 32 rfl
  exact ⟨fd, F, FunD.bindsN F fun kV doc pm an cdv ct us hl => by
    match us, hl with
    | [_, _, _], _ => rfl⟩
theorem cs_law : FnScope ["_law_script", "_law_nook_here", "_law_disk", "_law_due", "_law_ahead", "_law_book", "_law_turn", "_law_some", "_law_deed", "_law_later", "_law_rows", "_law_told", "_law_lap", "_law_record_here"] ["_law_script"] (defScope s_law) := ⟨rfl, rfl, rfl, by decide +kernel, rfl, by decide +kernel, by decide +kernel⟩
theorem Ev.ds_law (T : Ev K mg) : ∃ fd, FnP K "law" s_law (He.ga K "law") fd ∧ Binds K fd ["_law_script"] [] := by
  obtain ⟨fd, F⟩ := T.s.1.def_ 33 rfl
  exact ⟨fd, F, FunD.bindsN F fun kV doc pm an cdv ct us hl => by
    match us, hl with
    | [_], _ => rfl⟩
theorem csD_init : FnScope ["self", "_"] ["self"] (defScope sD_init) := ⟨rfl, rfl, rfl, by decide +kernel, rfl, by decide +kernel, by decide +kernel⟩
theorem Ev.dsD_init (T : Ev K mg) : ∃ fd, MtP K "__init__" "Disk.__init__" sD_init (He.ma K (He.ga K "Disk") "__init__") fd ∧ Binds K fd ["self"] [] := by
  obtain ⟨fd, F⟩ := T.s.1.def_ 34 rfl
  exact ⟨fd, F, FunD.bindsN F fun kV doc pm an cdv ct us hl => by
    match us, hl with
    | [_], _ => rfl⟩
theorem csD_spend : FnScope ["self"] ["self"] (defScope sD_spend) := ⟨rfl, rfl, rfl, by decide +kernel, rfl, by decide +kernel, by decide +kernel⟩
theorem Ev.dsD_spend (T : Ev K mg) : ∃ fd, MtP K "spend" "Disk.spend" sD_spend (He.ma K (He.ga K "Disk") "spend") fd ∧ Binds K fd ["self"] [] := by
  obtain ⟨fd, F⟩ := T.s.1.def_ 35 rfl
  exact ⟨fd, F, FunD.bindsN F fun kV doc pm an cdv ct us hl => by
    match us, hl with
    | [_], _ => rfl⟩
theorem csD_settle : FnScope ["self", "strokes"] ["self", "strokes"] (defScope sD_settle) := ⟨rfl, rfl, rfl, by decide +kernel, rfl, by decide +kernel, by decide +kernel⟩
theorem Ev.dsD_settle (T : Ev K mg) : ∃ fd, MtP K "settle" "Disk.settle" sD_settle (He.ma K (He.ga K "Disk") "settle") fd ∧ Binds K fd ["self", "strokes"] [] := by
  obtain ⟨fd, F⟩ := T.s.1.def_ 36 rfl
  exact ⟨fd, F, FunD.bindsN F fun kV doc pm an cdv ct us hl => by
    match us, hl with
    | [_, _], _ => rfl⟩
theorem csD_write : FnScope ["self", "track", "at", "values", "number", "value"] ["self", "track", "at", "values"] (defScope sD_write) := ⟨rfl, rfl, rfl, by decide +kernel, rfl, by decide +kernel, by decide +kernel⟩
theorem Ev.dsD_write (T : Ev K mg) : ∃ fd, MtP K "write" "Disk.write" sD_write (He.ma K (He.ga K "Disk") "write") fd ∧ Binds K fd ["self", "track", "at", "values"] [] := by
  obtain ⟨fd, F⟩ := T.s.1.def_ 37 rfl
  exact ⟨fd, F, FunD.bindsN F fun kV doc pm an cdv ct us hl => by
    match us, hl with
    | [_, _, _, _], _ => rfl⟩
theorem csD_flush : FnScope ["self"] ["self"] (defScope sD_flush) := ⟨rfl, rfl, rfl, by decide +kernel, rfl, by decide +kernel, by decide +kernel⟩
theorem Ev.dsD_flush (T : Ev K mg) : ∃ fd, MtP K "flush" "Disk.flush" sD_flush (He.ma K (He.ga K "Disk") "flush") fd ∧ Binds K fd ["self"] [] := by
  obtain ⟨fd, F⟩ := T.s.1.def_ 38 rfl
  exact ⟨fd, F, FunD.bindsN F fun kV doc pm an cdv ct us hl => by
    match us, hl with
    | [_], _ => rfl⟩
theorem csD_read : FnScope ["self", "track", "at", "many", "lying", "each"] ["self", "track", "at", "many"] (defScope sD_read) := ⟨rfl, rfl, rfl, by decide +kernel, rfl, by decide +kernel, by decide +kernel⟩
theorem Ev.dsD_read (T : Ev K mg) : ∃ fd, MtP K "read" "Disk.read" sD_read (He.ma K (He.ga K "Disk") "read") fd ∧ Binds K fd ["self", "track", "at", "many"] [] := by
  obtain ⟨fd, F⟩ := T.s.1.def_ 39 rfl
  exact ⟨fd, F, FunD.bindsN F fun kV doc pm an cdv ct us hl => by
    match us, hl with
    | [_, _, _, _], _ => rfl⟩
theorem csD_kept : FnScope ["self", "track"] ["self", "track"] (defScope sD_kept) := ⟨rfl, rfl, rfl, by decide +kernel, rfl, by decide +kernel, by decide +kernel⟩
theorem Ev.dsD_kept (T : Ev K mg) : ∃ fd, MtP K "kept" "Disk.kept" sD_kept (He.ma K (He.ga K "Disk") "kept") fd ∧ Binds K fd ["self", "track"] [] := by
  obtain ⟨fd, F⟩ := T.s.1.def_ 40 rfl
  exact ⟨fd, F, FunD.bindsN F fun kV doc pm an cdv ct us hl => by
    match us, hl with
    | [_, _], _ => rfl⟩
theorem csD_waiting : FnScope ["self"] ["self"] (defScope sD_waiting) := ⟨rfl, rfl, rfl, by decide +kernel, rfl, by decide +kernel, by decide +kernel⟩
theorem Ev.dsD_waiting (T : Ev K mg) : ∃ fd, MtP K "waiting" "Disk.waiting" sD_waiting (He.ma K (He.ga K "Disk") "waiting") fd ∧ Binds K fd ["self"] [] := by
  obtain ⟨fd, F⟩ := T.s.1.def_ 41 rfl
  exact ⟨fd, F, FunD.bindsN F fun kV doc pm an cdv ct us hl => by
    match us, hl with
    | [_], _ => rfl⟩
theorem csD_cut : FnScope ["self", "lands"] ["self", "lands"] (defScope sD_cut) := ⟨rfl, rfl, rfl, by decide +kernel, rfl, by decide +kernel, by decide +kernel⟩
theorem Ev.dsD_cut (T : Ev K mg) : ∃ fd, MtP K "cut" "Disk.cut" sD_cut (He.ma K (He.ga K "Disk") "cut") fd ∧ Binds K fd ["self", "lands"] [] := by
  obtain ⟨fd, F⟩ := T.s.1.def_ 42 rfl
  exact ⟨fd, F, FunD.bindsN F fun kV doc pm an cdv ct us hl => by
    match us, hl with
    | [_, _], _ => rfl⟩
theorem csD_fuse : FnScope ["self", "many"] ["self", "many"] (defScope sD_fuse) := ⟨rfl, rfl, rfl, by decide +kernel, rfl, by decide +kernel, by decide +kernel⟩
theorem Ev.dsD_fuse (T : Ev K mg) : ∃ fd, MtP K "fuse" "Disk.fuse" sD_fuse (He.ma K (He.ga K "Disk") "fuse") fd ∧ Binds K fd ["self", "many"] [] := by
  obtain ⟨fd, F⟩ := T.s.1.def_ 43 rfl
  exact ⟨fd, F, FunD.bindsN F fun kV doc pm an cdv ct us hl => by
    match us, hl with
    | [_, _], _ => rfl⟩
theorem csD_no_fuse : FnScope ["self"] ["self"] (defScope sD_no_fuse) := ⟨rfl, rfl, rfl, by decide +kernel, rfl, by decide +kernel, by decide +kernel⟩
theorem Ev.dsD_no_fuse (T : Ev K mg) : ∃ fd, MtP K "no_fuse" "Disk.no_fuse" sD_no_fuse (He.ma K (He.ga K "Disk") "no_fuse") fd ∧ Binds K fd ["self"] [] := by
  obtain ⟨fd, F⟩ := T.s.1.def_ 44 rfl
  exact ⟨fd, F, FunD.bindsN F fun kV doc pm an cdv ct us hl => by
    match us, hl with
    | [_], _ => rfl⟩
theorem csB_init : FnScope ["self", "disk", "generation", "rows"] ["self", "disk"] (defScope sB_init) := ⟨rfl, rfl, rfl, by decide +kernel, rfl, by decide +kernel, by decide +kernel⟩
theorem Ev.dsB_init (T : Ev K mg) : ∃ fd, MtP K "__init__" "Book.__init__" sB_init (He.ma K (He.ga K "Book") "__init__") fd ∧ Binds K fd ["self", "disk"] [] := by
  obtain ⟨fd, F⟩ := T.s.1.def_ 45 rfl
  exact ⟨fd, F, FunD.bindsN F fun kV doc pm an cdv ct us hl => by
    match us, hl with
    | [_, _], _ => rfl⟩
theorem csB_records : FnScope ["self"] ["self"] (defScope sB_records) := ⟨rfl, rfl, rfl, by decide +kernel, rfl, by decide +kernel, by decide +kernel⟩
theorem Ev.dsB_records (T : Ev K mg) : ∃ fd, MtP K "records" "Book.records" sB_records (He.ma K (He.ga K "Book") "records") fd ∧ Binds K fd ["self"] [] := by
  obtain ⟨fd, F⟩ := T.s.1.def_ 46 rfl
  exact ⟨fd, F, FunD.bindsN F fun kV doc pm an cdv ct us hl => by
    match us, hl with
    | [_], _ => rfl⟩
theorem csB_write : FnScope ["self", "record", "track", "first", "row"] ["self", "record"] (defScope sB_write) := ⟨rfl, rfl, rfl, by decide +kernel, rfl, by decide +kernel, by decide +kernel⟩
theorem Ev.dsB_write (T : Ev K mg) : ∃ fd, MtP K "_write" "Book._write" sB_write (He.ma K (He.ga K "Book") "_write") fd ∧ Binds K fd ["self", "record"] [] := by
  obtain ⟨fd, F⟩ := T.s.1.def_ 47 rfl
  exact ⟨fd, F, FunD.bindsN F fun kV doc pm an cdv ct us hl => by
    match us, hl with
    | [_, _], _ => rfl⟩
theorem csB_add : FnScope ["self", "record"] ["self", "record"] (defScope sB_add) := ⟨rfl, rfl, rfl, by decide +kernel, rfl, by decide +kernel, by decide +kernel⟩
theorem Ev.dsB_add (T : Ev K mg) : ∃ fd, MtP K "add" "Book.add" sB_add (He.ma K (He.ga K "Book") "add") fd ∧ Binds K fd ["self", "record"] [] := by
  obtain ⟨fd, F⟩ := T.s.1.def_ 48 rfl
  exact ⟨fd, F, FunD.bindsN F fun kV doc pm an cdv ct us hl => by
    match us, hl with
    | [_, _], _ => rfl⟩
theorem csB_next : FnScope ["self", "least", "is_same", "track"] ["self"] (defScope sB_next) := ⟨rfl, rfl, rfl, by decide +kernel, rfl, by decide +kernel, by decide +kernel⟩
theorem Ev.dsB_next (T : Ev K mg) : ∃ fd, MtP K "_next" "Book._next" sB_next (He.ma K (He.ga K "Book") "_next") fd ∧ Binds K fd ["self"] [] := by
  obtain ⟨fd, F⟩ := T.s.1.def_ 49 rfl
  exact ⟨fd, F, FunD.bindsN F fun kV doc pm an cdv ct us hl => by
    match us, hl with
    | [_], _ => rfl⟩
theorem csB_turn : FnScope ["self", "records", "record", "told"] ["self", "records"] (defScope sB_turn) := ⟨rfl, rfl, rfl, by decide +kernel, rfl, by decide +kernel, by decide +kernel⟩
theorem Ev.dsB_turn (T : Ev K mg) : ∃ fd, MtP K "turn" "Book.turn" sB_turn (He.ma K (He.ga K "Book") "turn") fd ∧ Binds K fd ["self", "records"] [] := by
  obtain ⟨fd, F⟩ := T.s.1.def_ 50 rfl
  exact ⟨fd, F, FunD.bindsN F fun kV doc pm an cdv ct us hl => by
    match us, hl with
    | [_, _], _ => rfl⟩
end
end PB

/-! heaps -/
namespace PB
open PySem PySem.Spec PyProof.Rows L2
theorem SameN {H : Hp} {p : Addr} {o : HO} (h : H p = none) : Same H (upd H p o) := fun b u e => by
  rw [upd_ne (fun z => by rw [z, h] at e; cases e)]
  exact e
theorem s_tup {K : PySem.W.Frag} {H H' : Hp} (e : Same H H') {a : Addr} {xs : List V} (h : SqT K H a xs) : SqT K H' a xs := by
  rcases
      h with (h | ⟨o, h⟩) | h
  · exact .inl (.inl (e _ _ h))
  · exact
        .inl (.inr ⟨o, e _ _ h⟩)
  · exact .inr h
/-- what is new in H1 may be changed -/
theorem s_put {H H1 : Hp} {p : Addr} {o : HO} (e : Same H H1) (h : H p = none) : Same H (upd H1 p o) := fun b u hb => by
  rw [upd_ne (fun z => by rw [z, h] at hb; cases hb)]
  exact e b u hb
theorem nne {H : Hp} {a b : Addr} {o : HO} (h : H a = some o) (h' : H b = none) : a ≠ b := fun z => by
  rw [z, h'] at h
  cases h
theorem tyx_l {K : PySem.W.Frag} {H : Hp} {a : Addr} {xs : List V} (h : SqL K H a xs) : TyX K H (.ref a) (.type "list") := by
  rcases h with (h | ⟨o, h⟩) | ⟨o, its, n, h, c, _⟩
  · exact .base (.lst h)
  · exact .base (.frz h)
  · exact .kList h c
theorem tyx_t {K : PySem.W.Frag} {H : Hp} {a : Addr} {xs : List V} (h : SqT K H a xs) : TyX K H (.ref a) (.type "tuple") := by
  rcases h with (h | ⟨o, h⟩) | ⟨o, its, n, h, c, _⟩
  · exact .base (.tup h)
  · exact .fTuple h
  · exact .kTuple h c
theorem kit_ll {K : PySem.W.Frag} : PySem.W.kitAny K (.type "list") [.type "list", .type "tuple"] = some true := kitAny_cons (b := true) (kit_ty (by decide +kernel)) (fun z => nomatch z) (fun _ => rfl)
theorem kit_lt {K : PySem.W.Frag} : PySem.W.kitAny K (.type "tuple") [.type "list", .type "tuple"] = some true :=
  kitAny_cons (b := false) (kit_ty (by decide +kernel)) (fun _ => kitAny_cons (b := true) (kit_ty (by decide +kernel)) (fun z => nomatch z) (fun _ => rfl)) (fun z => nomatch z)
abbrev gT2 (K : PySem.W.Frag) (i j : Nat) : TG := gTup K 2 (gCons (gName i) (gCons (gName j) gNil))
theorem cut_from (xs : List V) (k : Nat) : cutV xs (some (k : Int)) none = xs.drop k := by
  unfold cutV
  rw [HT.sIx_nat, HT.sIx_none]
  by_cases h : k ≤ xs.length
  · rw [Nat.min_eq_left h, List.take_of_length_le (by rw [List.length_drop]; omega)]
  · rw [Nat.min_eq_right (by omega), List.drop_of_length_le (Nat.le_refl _), List.drop_of_length_le (by omega), List.take_nil]
theorem cut_mid (xs : List V) (j k : Nat) : cutV xs (some (j : Int)) (some (k : Int)) = (xs.drop j).take (k - j) := by
  unfold cutV
  rw [HT.sIx_nat, HT.sIx_nat]
  by_cases h : j ≤ xs.length
  · rw [Nat.min_eq_left h]
    by_cases h2 : k ≤ xs.length
    · rw [Nat.min_eq_left h2]
    · rw [Nat.min_eq_right (by omega), List.take_of_length_le (by rw [List.length_drop]; omega), List.take_of_length_le (by rw [List.length_drop]; omega)]
  · rw [Nat.min_eq_right (show xs.length ≤ j by omega), List.drop_of_length_le (Nat.le_refl _), List.drop_of_length_le (by omega), List.take_nil, List.take_nil]
theorem cut_to (xs : List V) (k : Nat) : cutV xs none (some (k : Int)) = xs.take k := by
  unfold cutV
  rw [HT.sIx_nat, HT.sIx_none, List.drop_zero, Nat.sub_zero]
  by_cases h : k ≤ xs.length
  · rw [Nat.min_eq_left h]
  · rw
        [Nat.min_eq_right (by omega), List.take_of_length_le (Nat.le_refl _), List.take_of_length_le (by omega)]
theorem bl_t {p : Prop} [Decidable p] (h : p) : V.bl (decide p) = V.bl true := congrArg V.bl (decide_eq_true h)
theorem bl_f {p : Prop} [Decidable p] (h : ¬ p) : V.bl (decide p) = V.bl false := congrArg V.bl (decide_eq_false h)
/-- all but lists is as it was -/
def NL (H H' : Hp) : Prop := ∀ b o, (∀ xs, o ≠ .lst xs) → H b = some o → H' b = some o
theorem s_nl {H H' : Hp} (h : Same H H') : NL H H' := fun b o _ e => h b o e
theorem n_trans {H H1 H2 : Hp} (a : NL H H1) (b : NL H1 H2) : NL H H2 := fun c o n h => b c o n (a c o n h)
theorem n_upd {H : Hp} {D : Addr} {xs ys : List V} (h : H D = some (.lst xs)) : NL H (upd H D (.lst ys)) := fun b o n e => by
  rw [upd_ne (fun z => by rw [z, h] at e; exact n xs (Option.some.inj e).symm)]
  exact e
theorem n_tup {K : PySem.W.Frag} {H H' : Hp} (e : NL H H') {a : Addr} {xs : List V} (h : SqT K H a xs) : SqT K H' a xs := by
  rcases
      h with (h | ⟨o, h⟩) | h
  · exact .inl (.inl (e _ _ (fun _ z => nomatch z) h))
  · exact .inl (.inr ⟨o, e _ _ (fun _ z => nomatch z) h⟩)
  · exact .inr h
abbrev LcGoal (J : It) (g : TG) (tt : TT) (te : TE) (vs : List Nat) (σ : L2.St) (H1 : Hp) (D : Addr) (Qd : Hp → Prop) : Prop :=
  ∃
      W : Nat → Nat → Hp → Prop, (∃ m, W 0 m (upd H1 D (.lst []))) ∧ ∀ i m H, W i m H →
      (J.stop
          i H ∧ Qd H) ∨ (J.go i H ∧ ∃ Nx : Hp → Prop, (∀ H', Nx H' → ∃ m', m' < m ∧ W (i + 1) m' H') ∧ ∀ x H', J.yld i H x H' → g x (wipe σ vs) H' fun σ2 H2 => wipe σ2 vs = wipe σ vs ∧ tt σ2 H2 fun b H3 =>
        if
            b = true then te σ2 H3 fun y H4 => ∃ acc, H4 D = some (.lst acc) ∧ acc.length < sizeLine ∧ Nx (upd H4 D (.lst (acc ++ [y]))) else Nx H3)
/-- a comprehension without ifs whose items' making changes nothing: Rl tells its items -/
theorem lc_map {J : It} {n : Nat} {G : Hp → Prop} {Y : Nat → Hp → V → Hp → Prop} (w : Walk J n G Y) {g : TG} {te : TE} {vs : List Nat} {σ : L2.St} {H1 : Hp} {D : Addr} {Qd : Hp → Prop} (Rl : Nat → V → Hp → Prop) (mono : ∀ j v H H', NL H H' → Rl j v H → Rl j v H')
    (hn : n < sizeLine) (nD : H1 D = none) (hG : ∀ H, Same H1 H → G H)
    (hs : ∀ i x H H' acc, i < n → Same H1 H → H D = some (.lst acc) → Y i H x H' → ∀ R : V → Hp → Prop, (∀ y H4, Same H H4 → Rl i y H4 → R y H4) → g x (wipe σ vs) H' fun σ2 H2 => wipe σ2 vs = wipe σ vs ∧ te σ2 H2 R)
    (hd : ∀ H ys, Same H1 H → H D = some (.lst ys) → ys.length = n → (∀ j v, ys[j]? = some v → Rl j v H) → Qd H) : LcGoal J g tYes te vs σ H1 D Qd := by
  refine lc_it w (fun i H => Same H1 H ∧ ∃ ys, H D = some (.lst ys) ∧ ys.length = i ∧ i ≤ n ∧ ∀ j v, ys[j]? = some v → Rl j v H) ⟨SameN nD, [], upd_same, rfl, Nat.zero_le _, fun j v e => by simp at e⟩ (fun i H _ h => hG H h.1) ?_ ?_
  · rintro i x H H' hi ⟨hS, ys, hD, hl, _, hR⟩ y
    simp only [tYes, ↓reduceIte]
    refine hs i x H H' ys hi hS hD y _ ?_
    intro z H4 hS4 hz
    refine ⟨ys, hS4 _ _ hD, by omega, s_put (hS.trans hS4) nD, _, upd_same, by rw [List.length_append, hl, List.length_singleton], hi, fun j v e => ?_⟩
    refine mono _ _ _ _ (n_upd (hS4 _ _ hD)) ?_
    by_cases hj : j < ys.length
    · rw [List.getElem?_append_left hj] at e
      exact mono _ _ _ _ (s_nl hS4) (hR j v e)
    · have hj2 := (List.getElem?_eq_some_iff.mp e).1
      rw [List.length_append, List.length_singleton] at hj2
      have ej : j = ys.length := by omega
      rw [ej, List.getElem?_append_right (Nat.le_refl _)] at e
      have e2 : z = v := by simpa using e
      rw [ej, ← e2, hl]
      exact hz
  · rintro H ⟨hS, ys, hD, hl, _, hR⟩
    exact hd H ys hS hD hl hR
/-- .. items that are plain values -/
theorem lc_plain {J : It} {n : Nat} {G : Hp → Prop} {Y : Nat → Hp → V → Hp → Prop} (w : Walk J n G Y) {g : TG} {te : TE} {vs : List Nat} {σ : L2.St} {H1 : Hp} {D : Addr} {Qd : Hp → Prop} (zs : List V) (hz : zs.length = n)
    (hn : n < sizeLine) (nD : H1 D = none) (hG : ∀ H, Same H1 H → G H)
    (hs : ∀ i x H H' z, i < n → Same H1 H → zs[i]? = some z → Y i H x H' → ∀ R : V → Hp → Prop, (∀ H4, Same H H4 → R z H4) → g x (wipe σ vs) H' fun σ2 H2 => wipe σ2 vs = wipe σ vs ∧ te σ2 H2 R)
    (hd : ∀ H, Same H1 H → H D = some (.lst zs) → Qd H) : LcGoal J g tYes te vs σ H1 D Qd := by
  refine lc_map w (fun i v _ => zs[i]? = some v) (fun _ _ _ _ _ h => h) hn nD hG ?_ ?_
  · intro i x H H' acc hi hS _ y R hR
    have hi2 : i < zs.length := by omega
    exact hs i x H H' zs[i] hi hS (List.getElem?_eq_getElem hi2) y R fun H4 h4 => hR _ H4 h4 (List.getElem?_eq_getElem hi2)
  · intro H ys hS hD hl hR
    have e : ys = zs := by
      refine List.ext_getElem? fun i => ?_
      by_cases hi : i < ys.length
      · rw [List.getElem?_eq_getElem hi]
        exact (hR i _ (List.getElem?_eq_getElem hi)).symm
      · rw [List.getElem?_eq_none (by omega), List.getElem?_eq_none (by omega)]
    rw [e] at hD
    exact hd H hS hD
end PB

namespace PB
open PySem PySem.Spec PyProof.Rows L2
/-- a def of the module keeps a promise -/
def OkF (P : Program) (w : World) (K : PySem.W.Frag) (mg : Str → Option Value) (base : Heap) (CX : CXT) (k : Nat) (x : Str) (ps : List Str) (sp : Sp) : Prop :=
  ∃ fd, FnOk P w K mg base CX k (He.ga K x) fd ps sp ∧ Binds K fd ps [] ∧ PySem.W.keepIn K (.ref (He.ga K x)) = true
section
variable
    {P : Program} {w : World} {K : PySem.W.Frag} {mg : Str → Option Value} {base : Heap}
/-! ### is_integer, is_within -/
def spIsInt : Sp := fun vs H Q _ => ∃ i : Int, vs = [.int i] ∧ Q (.bl true) H
theorem ok_is_integer (T : Ev K mg) : OkF P w K mg base CX0 1 "is_integer" ["value"] spIsInt := by
  obtain ⟨fd, F, b⟩ := T.ds_is_integer
  refine ⟨fd, FunD.ok F cs_is_integer ?_ ?_, b, F.kp⟩
  · rintro vs H Q E ⟨i, rfl, _⟩; rfl
  · rintro cdv A outer s H vs Q E hr ⟨i, rfl, q⟩
    refine ⟨_, pss_one (ps_ret (pe_and (pe_callB call_isi (by rfl) T.f_isinstance (by decide +kernel) (pa_cons (pv 0) (pa_cons (pe_bltn (v := .ty "int") (by rfl) T.f_int (by decide +kernel) rfl) pa_nil)))
      (pe_one (pe_not (pe_callB call_isi (by rfl) T.f_isinstance (by decide +kernel) (pa_cons (pv 0) (pa_cons (pe_bltn (v := .ty "bool") (by rfl) T.f_bool (by decide +kernel) rfl) pa_nil))))))), ?_⟩
    refine ⟨_, rfl, _, _, _, _, true, rfl, .ty _, .base (.int i), kit_ty (by decide +kernel), true, rfl, iteT ?_⟩
    exact ⟨_, rfl, _, _, _, _, false, rfl, .ty _, .base (.int i), kit_ty (by decide +kernel), false, rfl, q⟩
def spWithin : Sp := fun vs H Q _ => ∃ (i a : Int) (m : V), vs = [.int i, .int a, m] ∧ a ≤ i ∧ (m = .non ∨ ∃ b, m = .int b ∧ i ≤ b) ∧ Q (.bl true) H
theorem ok_is_within (T : Ev K mg) : OkF P w K mg base CX0 2 "is_within" ["value", "least", "most"] spWithin := by
  obtain ⟨fd, F, b⟩ := T.ds_is_within
  obtain ⟨fI, GI, bI, kI⟩ := ok_is_integer (P := P) (w := w) (base := base) T
  refine ⟨fd, FunD.ok F cs_is_within ?_ ?_, b, F.kp⟩
  · rintro vs H Q E ⟨i, a, m, rfl, _⟩; rfl
  · rintro cdv A outer s H vs Q E hr ⟨i, a, m, rfl, ha, hm, q⟩
    refine ⟨_, pss_cons (ps_if (pt_not (pt_val (pe_call GI hr rfl T.g_is_integer kI bI .nil pass0 (pa_cons (pv 0) pa_nil)))) (pss_one ps_never) pss_nil)
      (pss_one (ps_ret (pe_and (pe_or (pe_cmp (pc_isN (pv 1)) rfl) (pe_one (pe_cmp (pc_ge (pv 0) (pv 1)) rfl)))
        (pe_one (pe_or (pe_cmp (pc_isN (pv 2)) rfl) (pe_one (pe_cmp (pc_le (pv 0) (pv 2)) rfl))))))), ?_⟩
    refine ⟨_, rfl, i, rfl, true, rfl, iteF ?_⟩
    refine ⟨_, rfl, false, rfl, iteF ⟨_, rfl, _, rfl, _, _, rfl, rfl, true, bl_t ha, iteT ?_⟩⟩
    rcases hm with rfl | ⟨c, rfl, hc⟩
    · exact ⟨_, rfl, true, rfl, iteT q⟩
    · refine ⟨_, rfl, false, rfl, iteF ⟨_, rfl, _, rfl, _, _, rfl, rfl, ?_⟩⟩
      show Q (V.bl (decide (i ≤ c))) H
      rw [decide_eq_true hc]
      exact q
/-! ### are_integers, is_lot -/
def spAreInts (K : PySem.W.Frag) : Sp := fun vs H Q _ => ∃ (a : Addr) (ns : List Int), vs = [.ref a] ∧ SqL K H a (ns.map V.int) ∧ ns.length < sizeLine ∧ ∀ H', Same H H' → Q (.bl true) H'
theorem all_true (n : Nat) : (List.replicate n true).all id = true := by
  rw [List.all_eq_true]
  intro x hx
  rw [List.eq_of_mem_replicate hx]
  rfl
theorem ok_are_integers (T : Ev K mg) : OkF P w K mg base CX0 2 "are_integers" ["value"] (spAreInts K) := by
  obtain ⟨fd, F, b⟩ := T.ds_are_integers
  obtain ⟨fI, GI, bI, kI⟩ := ok_is_integer (P := P) (w := w) (base := base) T
  refine ⟨fd, FunD.ok F cs_are_integers ?_ ?_, b, F.kp⟩
  · rintro vs H Q E ⟨a, ns, rfl, _⟩; rfl
  · rintro cdv A outer s H vs Q E hr ⟨a, ns, rfl, ha, hl, q⟩
    refine ⟨_, pss_one (ps_ret (pe_and (pe_callB call_isiT (by rfl) T.f_isinstance (by decide +kernel) (pa_cons (pv 0) (pa_cons (pe_tup (pa_cons (pe_bltn (v := .ty "list") (by rfl) T.f_list (by decide +kernel) rfl) (pa_cons (pe_bltn (v := .ty "tuple") (by rfl) T.f_tuple (by decide +kernel) rfl) pa_nil))) pa_nil)))
      (pe_one (pe_callB (cr_all rfl) (by rfl) T.f_all (by decide +kernel) (pa_cons
        (pe_lc (own := [("each", 1)]) (g := gName 1) (tt := tYes) rfl cs_are_integers.nd (pi_list (pv 0)) (blkOk_by (N := ["value", "each"]) (sc := defScope s_are_integers) (by decide +kernel)) (fun _ _ _ _ _ => pg_name (i := 1) cs_are_integers.nd rfl (Or.inl rfl)) (fun _ _ _ _ _ => pts_nil)
          (fun _ _ _ _ _ => pe_call GI hr rfl T.g_is_integer kI bI .nil pass0 (pa_cons (pv 1) pa_nil))) pa_nil))))), ?_⟩
    refine ⟨_, rfl, by show 2 ≤ sizeLine; decide, fun t ht => ⟨_, t, _, _, _, true, rfl, upd_same, .cons (.ty _) (.cons (.ty _) .nil), ?_, kit_ll, true, rfl, iteT ?_⟩⟩
    · exact tyx_l ((SameN ht).seq ha)
    · refine ⟨_, rfl, a, rfl, ⟨_, (SameN ht).seq ha⟩, fun D nD => ?_⟩
      refine lc_plain (walk_list (K := K) (a := a) (xs := ns.map V.int)) (List.replicate ns.length (V.bl true)) (by simp) (by simpa using hl) nD (fun H' h' => h'.seq ((SameN ht).seq ha)) ?_ ?_
      · rintro i x H2 H3 z hi hS hz ⟨rfl, hx⟩ R hR
        rw [List.getElem?_map] at hx
        obtain ⟨k, _, ek⟩ := Option.map_eq_some_iff.mp hx
        rw [List.getElem?_replicate, if_pos (by simpa using hi)] at hz
        cases hz
        subst ek
        refine ⟨rfl, ?_⟩
        exact ⟨_, rfl, k, rfl, hR _ (Same.refl _)⟩
      · intro H' hS hD
        refine ⟨D, List.replicate ns.length true, rfl, .of (by rw [List.map_replicate]; exact hD), ?_⟩
        rw [all_true]
        exact q _ ((SameN ht).trans hS)
def spLot (K : PySem.W.Frag) : Sp := fun vs H Q _ => ∃ (a : Addr) (ns : List Int) (m : Int), vs = [.ref a, .int m] ∧ SqL K H a (ns.map V.int) ∧ ns.length < sizeLine ∧ (∀ n ∈ ns, 0 ≤ n ∧ n < m) ∧
  (∀ (i : Nat) (x y : Int), ns[i]? = some x → ns[i + 1]? = some y → x < y) ∧ ∀ H', Same H H' → Q (.bl true) H'
theorem ok_is_lot (T : Ev K mg) : OkF P w K mg base CX0 3 "is_lot" ["value", "many"] (spLot K) := by
  obtain ⟨fd, F, b⟩ := T.ds_is_lot
  obtain ⟨fI, GI, bI, kI⟩ := ok_are_integers (P := P) (w := w) (base := base) T
  refine ⟨fd, FunD.ok F cs_is_lot ?_ ?_, b, F.kp⟩
  · rintro vs H Q E ⟨a, ns, m, rfl, _⟩; rfl
  · rintro cdv A outer s H vs Q E hr ⟨a, ns, m, rfl, ha, hl, hb, hs, q⟩
    refine ⟨_, pss_cons (ps_if (PW.pt (pw_or (pt_not (pt_val (pe_call GI hr rfl T.g_are_integers kI bI .nil pass0 (pa_cons (pv 0) pa_nil))))
        (pw_or1 (pt_not (pt_val (pe_callB (cr_all rfl) (by rfl) T.f_all (by decide +kernel) (pa_cons
        (pe_lc (own := [("each", 2)]) (g := gName 2) (tt := tYes) rfl cs_is_lot.nd (pi_list (pv 0)) (blkOk_by (N := ["value", "many", "each", "one", "other"]) (sc := defScope s_is_lot) (by decide +kernel)) (fun _ _ _ _ _ => pg_name (i := 2) cs_is_lot.nd rfl (Or.inl rfl)) (fun _ _ _ _ _ => pts_nil)
          (fun _ _ _ _ _ => pe_chain op_le op_lt pe_int (pv 2) (pv 1))) pa_nil))))))) (pss_one ps_never) pss_nil)
      (pss_one (ps_ret (pe_callB (cr_all rfl) (by rfl) T.f_all (by decide +kernel) (pa_cons
        (pe_lc (own := [("one", 3), ("other", 4)]) (g := gT2 K 3 4) (tt := tYes) rfl cs_is_lot.nd (pi_zip (by rfl) T.f_zip (pa_cons (pv 0) (pa_cons (pe_slice sl_list (pv 0) (po_some pe_int) po_none) pa_nil))) (blkOk_by (N := ["value", "many", "each", "one", "other"]) (sc := defScope s_is_lot) (by decide +kernel))
          (fun _ _ _ _ _ => pg_tup rfl (pgs_cons (pg_name (i := 3) cs_is_lot.nd rfl (Or.inl rfl)) (pgs_cons (pg_name (i := 4) cs_is_lot.nd rfl (Or.inl rfl)) pgs_nil))) (fun _ _ _ _ _ => pts_nil)
          (fun _ _ _ _ _ => pe_cmp (pc_lt (pv 3) (pv 4)) rfl)) pa_nil)))), ?_⟩
    refine ⟨_, rfl, a, ns, rfl, ha, hl, fun H1 h1 => ⟨true, rfl, ?_⟩⟩
    refine iteF ⟨_, rfl, a, rfl, ⟨_, h1.seq ha⟩, fun D nD => ?_⟩
    refine lc_plain (walk_list (K := K) (a := a) (xs := ns.map V.int)) (List.replicate ns.length (V.bl true)) (by simp) (by simpa using hl) nD (fun H' h' => h'.seq (h1.seq ha)) ?_ ?_
    · rintro i x H2 H3 z hi hS hz ⟨rfl, hx⟩ R hR
      rw [List.getElem?_map] at hx
      obtain ⟨k, hk, ek⟩ := Option.map_eq_some_iff.mp hx
      rw [List.getElem?_replicate, if_pos (by simpa using hi)] at hz
      cases hz
      obtain ⟨k1, k2⟩ := hb k (List.mem_of_getElem? hk)
      refine ⟨rfl, ?_⟩
      subst ek
      refine ⟨_, rfl, 0, k, rfl, rfl, true, bl_t k1, iteT ⟨_, rfl, k, m, rfl, rfl, ?_⟩⟩
      show R (V.bl (decide (k < m))) H3
      rw [decide_eq_true k2]
      exact hR _ (Same.refl _)
    · intro H2 h2 hD
      refine ⟨D, List.replicate ns.length true, rfl, .of (by rw [List.map_replicate]; exact hD), ?_⟩
      rw [all_true]
      refine ⟨true, rfl, iteF ?_⟩
      refine ⟨_, rfl, _, rfl, 1, rfl, a, _, rfl, (h1.trans h2).seq ha, fun p np => ?_⟩
      have np2 : H2 p = none := np
      have eC : cutV (ns.map V.int) (some 1) none = (ns.drop 1).map V.int := by
        rw [List.map_drop]
        exact cut_from _ 1
      rw [eC]
      have hS2 : Same H2 (upd H2 p (.lst ((ns.drop 1).map V.int))) := SameN np2
      refine ⟨a, p, ns.map V.int, (ns.drop 1).map V.int, rfl, hS2.seq ((h1.trans h2).seq ha), .of upd_same, fun D2 nD2 => ?_⟩
      refine lc_plain (walk_zip (K := K) (a := a) (b := p) (xs := ns.map V.int) (ys := (ns.drop 1).map V.int) (n := ns.length - 1) (by simp only [List.length_map, List.length_drop]; omega)) (List.replicate (ns.length - 1) (V.bl true)) (by simp) (by omega) nD2
        (fun H' h' => ⟨h'.seq (hS2.seq ((h1.trans h2).seq ha)), h'.seq (.of upd_same)⟩) ?_ ?_
      · rintro i v H3 H4 z hi hS hz ⟨t, x, y, rfl, nt, rfl, hx, hy⟩ R hR
        have hx : (ns.map V.int)[i]? = some x := hx
        have hy : ((ns.drop 1).map V.int)[i]? = some y := hy
        rw [List.getElem?_map] at hx hy
        obtain ⟨k, hk, ek⟩ := Option.map_eq_some_iff.mp hx
        obtain ⟨l, hl2, el⟩ := Option.map_eq_some_iff.mp hy
        rw [List.getElem?_drop, Nat.add_comm] at hl2
        rw [List.getElem?_replicate, if_pos hi] at hz
        cases hz
        subst ek el
        refine ⟨t, _, rfl, .of upd_same, rfl, _, _, rfl, _, _, rfl, rfl, rfl, ?_⟩
        refine ⟨_, rfl, _, rfl, k, l, rfl, rfl, ?_⟩
        show R (V.bl (decide (k < l))) _
        rw [decide_eq_true (hs i k l hk hl2)]
        exact hR _ (SameN nt)
      · intro H3 h3 hD3
        refine ⟨D2, List.replicate (ns.length - 1) true, rfl, .of (by rw [List.map_replicate]; exact hD3), ?_⟩
        rw [all_true]
        exact q _ ((h1.trans h2).trans (hS2.trans h3))
/-! ### need_number and its like -/
def spNeed : Sp := fun vs H Q _ => ∃ (i a : Int) (m p : V), vs = [.int i, p, .int a, m] ∧ a ≤ i ∧ (m = .non ∨ ∃ b, m = .int b ∧ i ≤ b) ∧ Q .non H
theorem ok_need_number (T : Ev K mg) : OkF P w K mg base CX0 3 "need_number" ["value", "part", "least", "most"] spNeed := by
  obtain ⟨fd, F, b⟩ := T.ds_need_number
  obtain ⟨fI, GI, bI, kI⟩ := ok_is_within (P := P) (w := w) (base := base) T
  refine ⟨fd, FunD.ok F cs_need_number ?_ ?_, b, F.kp⟩
  · rintro vs H Q E ⟨i, a, m, p, rfl, _⟩; rfl
  · rintro cdv A outer s H vs Q E hr ⟨i, a, m, p, rfl, ha, hm, q⟩
    refine ⟨_, pss_one (ps_if (pt_not (pt_val (pe_call GI hr rfl T.g_is_within kI bI .nil pass0 (pa_cons (pv 0) (pa_cons (pv 2) (pa_cons (pv 3) pa_nil)))))) (pss_one ps_never) pss_nil), ?_⟩
    exact ⟨_, rfl, _, rfl, _, rfl, i, a, m, rfl, ha, hm, true, rfl, iteF q⟩
def spNeedT : Sp := fun vs H Q _ => ∃ i : Int, vs = [.int i] ∧ 0 ≤ i ∧ i ≤ 2 ∧ Q .non H
theorem ok_need_track (T : Ev K mg) : OkF P w K mg base CX0 4 "need_track" ["value"] spNeedT := by
  obtain ⟨fd, F, b⟩ := T.ds_need_track
  obtain ⟨fI, GI, bI, kI⟩ := ok_need_number (P := P) (w := w) (base := base) T
  obtain ⟨t, ht⟩ := T.i_TRACKS
  refine ⟨fd, FunD.ok F cs_need_track ?_ ?_, b, F.kp⟩
  · rintro vs H Q E ⟨i, rfl, _⟩; rfl
  · rintro cdv A outer s H vs Q E hr ⟨i, rfl, ha, hm, q⟩
    refine ⟨_, pss_one (ps_expr (pe_call GI hr rfl T.g_need_number kI bI .nil pass0 (pa_cons (pv 0) (pa_cons pe_str (pa_cons pe_int (pa_cons (pe_op op_sub (pe_glob (v := .int 3) rfl ht ⟨_, rfl⟩) pe_int) pa_nil)))))), ?_⟩
    exact ⟨_, rfl, 3, 1, rfl, rfl, i, 0, _, _, rfl, ha, .inr ⟨_, rfl, hm⟩, q⟩
def spNeedC : Sp := fun vs H Q _ => ∃ i : Int, vs = [.int i] ∧ 0 ≤ i ∧ i ≤ 10000000 ∧ Q .non H
theorem ok_need_cell (T : Ev K mg) : OkF P w K mg base CX0 4 "need_cell" ["value"] spNeedC := by
  obtain ⟨fd, F, b⟩ := T.ds_need_cell
  obtain ⟨fI, GI, bI, kI⟩ := ok_need_number (P := P) (w := w) (base := base) T
  obtain ⟨t, ht⟩ := T.i_LAST_CELL
  refine ⟨fd, FunD.ok F cs_need_cell ?_ ?_, b, F.kp⟩
  · rintro vs H Q E ⟨i, rfl, _⟩; rfl
  · rintro cdv A outer s H vs Q E hr ⟨i, rfl, ha, hm, q⟩
    refine ⟨_, pss_one (ps_expr (pe_call GI hr rfl T.g_need_number kI bI .nil pass0 (pa_cons (pv 0) (pa_cons pe_str (pa_cons pe_int (pa_cons (pe_glob (v := .int 10000000) rfl ht ⟨_, rfl⟩) pa_nil)))))), ?_⟩
    exact ⟨_, rfl, i, 0, _, _, rfl, ha, .inr ⟨_, rfl, hm⟩, q⟩
def spMost : Sp := fun vs H Q _ => ∃ i : Int, vs = [.int i] ∧ i ≤ 1000000 ∧ Q (.int 4096) H
theorem ok_most_from (T : Ev K mg) : OkF P w K mg base CX0 1 "most_from" ["at"] spMost := by
  obtain ⟨fd, F, b⟩ := T.ds_most_from
  obtain ⟨t, ht⟩ := T.i_LAST_CELL
  obtain ⟨t2, ht2⟩ := T.i_MOST_CELLS
  refine ⟨fd, FunD.ok F cs_most_from ?_ ?_, b, F.kp⟩
  · rintro vs H Q E ⟨i, rfl, _⟩; rfl
  · rintro cdv A outer s H vs Q E hr ⟨i, rfl, ha, q⟩
    refine ⟨_, pss_one (ps_ret (pe_callB (call_min2 rfl) (by rfl) T.f_min (by decide +kernel) (pa_cons (pe_glob (v := .int 4096) rfl ht2 ⟨_, rfl⟩) (pa_cons (pe_op op_sub (pe_op op_add (pe_glob (v := .int 10000000) rfl ht ⟨_, rfl⟩) pe_int) (pv 0)) pa_nil)))), ?_⟩
    refine ⟨_, _, rfl, rfl, _, rfl, _, _, rfl, rfl, _, _, rfl, ?_⟩
    rw [if_neg (by show ¬ ((10000000 : Int) + 1 - i < 4096); omega)]
    exact q
/-! ### are_values -/
def spVals (K : PySem.W.Frag) : Sp := fun vs H Q _ => ∃ (a : Addr) (ns : List Int) (m : Int), vs = [.ref a, .int m] ∧ SqT K H a (ns.map V.int) ∧ (ns.length : Int) ≤ m ∧ ns.length < sizeLine ∧ (∀ n ∈ ns, 0 ≤ n ∧ n ≤ 9223372036854775807) ∧ ∀ H', Same H H' → Q (.bl true) H'
theorem ok_are_values (T : Ev K mg) : OkF P w K mg base CX0 3 "are_values" ["value", "most"] (spVals K) := by
  obtain ⟨fd, F, b⟩ := T.ds_are_values
  obtain ⟨fI, GI, bI, kI⟩ := ok_is_integer (P := P) (w := w) (base := base) T
  obtain ⟨fW, GW, bW, kW⟩ := ok_is_within (P := P) (w := w) (base := base) T
  obtain ⟨t, ht⟩ := T.i_MOST_IN_CELL
  refine ⟨fd, FunD.ok F cs_are_values ?_ ?_, b, F.kp⟩
  · rintro vs H Q E ⟨a, ns, m, rfl, _⟩; rfl
  · rintro cdv A outer s H vs Q E hr ⟨a, ns, m, rfl, ha, hm, hl, hb, q⟩
    refine ⟨_, pss_cons (ps_if (PW.pt (pw_or (pt_not (pt_val (pe_callB call_isiT (by rfl) T.f_isinstance (by decide +kernel) (pa_cons (pv 0) (pa_cons (pe_tup (pa_cons (pe_bltn (v := .ty "list") (by rfl) T.f_list (by decide +kernel) rfl) (pa_cons (pe_bltn (v := .ty "tuple") (by rfl) T.f_tuple (by decide +kernel) rfl) pa_nil))) pa_nil)))))
        (pw_or1 (pt_cmpR op_gt (pe_callB call_len_seq (by rfl) T.f_len PySem.boot_len (pa_cons (pv 0) pa_nil)) (pv 1) (nomark _))))) (pss_one ps_never) pss_nil)
      (pss_one (ps_ret (pe_callB (cr_all rfl) (by rfl) T.f_all (by decide +kernel) (pa_cons
        (pe_lc (own := [("each", 2)]) (g := gName 2) (tt := tYes) rfl cs_are_values.nd (pi_tup (pv 0)) (blkOk_by (N := ["value", "most", "each"]) (sc := defScope s_are_values) (by decide +kernel)) (fun _ _ _ _ _ => pg_name (i := 2) cs_are_values.nd rfl (Or.inl rfl)) (fun _ _ _ _ _ => pts_nil)
          (fun _ _ _ _ _ => pe_and (pe_call GI (hr.mono (by decide)) rfl T.g_is_integer kI bI .nil pass0 (pa_cons (pv 2) pa_nil)) (pe_one (pe_call GW hr rfl T.g_is_within kW bW .nil pass0 (pa_cons (pv 2) (pa_cons pe_int (pa_cons (pe_glob (v := .int 9223372036854775807) rfl ht ⟨_, rfl⟩) pa_nil))))))) pa_nil)))), ?_⟩
    refine ⟨_, rfl, by show 2 ≤ sizeLine; decide, fun t ht => ⟨_, t, _, _, _, true, rfl, upd_same, .cons (.ty _) (.cons (.ty _) .nil), tyx_t (s_tup (SameN ht) ha), kit_lt, true, rfl, iteF ?_⟩⟩
    have h1 : Same H (upd H t (.tup [.ty "list", .ty "tuple"])) := SameN ht
    refine ⟨_, rfl, _, _, rfl, .inr (s_tup h1 ha), _, rfl, _, _, rfl, rfl, false, bl_f (by rw [List.length_map]; omega), iteF ?_⟩
    refine ⟨_, rfl, a, rfl, ⟨_, s_tup h1 ha⟩, fun D nD => ?_⟩
    refine lc_plain (walk_tup (K := K) (a := a) (xs := ns.map V.int)) (List.replicate ns.length (V.bl true)) (by simp) (by simpa using hl) nD (fun H' h' => s_tup h' (s_tup h1 ha)) ?_ ?_
    · rintro i x H2 H3 z hi hS hz ⟨rfl, hx⟩ R hR
      rw [List.getElem?_map] at hx
      obtain ⟨k, hk, ek⟩ := Option.map_eq_some_iff.mp hx
      rw [List.getElem?_replicate, if_pos (by simpa using hi)] at hz
      cases hz
      obtain ⟨k1, k2⟩ := hb k (List.mem_of_getElem? hk)
      subst ek
      exact ⟨rfl, _, rfl, k, rfl, true, rfl, iteT ⟨_, rfl, k, 0, _, rfl, k1, .inr ⟨_, rfl, k2⟩, hR _ (Same.refl _)⟩⟩
    · intro H2 h2 hD
      refine ⟨D, List.replicate ns.length true, rfl, .of (by rw [List.map_replicate]; exact hD), ?_⟩
      rw [all_true]
      exact q _ (h1.trans h2)
end
end PB

/-! the dict of a track; landed, pairs_in -/
namespace PB
open PySem PySem.Spec PyProof.Rows L2
/-- one list tells another -/
def LR {α : Type} (R : α → V → Prop) (vs : List V) (xs : List α) : Prop := vs.length = xs.length ∧ ∀ (i : Nat) (x : α), xs[i]? = some x → ∃ v, vs[i]? = some v ∧ R x v
theorem lr_nil {α : Type} {R : α → V → Prop} : LR R [] [] := ⟨rfl, fun i x h => by simp at h⟩
theorem lr_mono {α : Type} {R R' : α → V → Prop} {vs : List V} {xs : List α} (h : LR R vs xs) (m : ∀ x v, R x v → R' x v) : LR R' vs xs := ⟨h.1, fun i x e => let ⟨v, e1, e2⟩ := h.2 i x e; ⟨v, e1, m _ _ e2⟩⟩
theorem lr_snoc {α : Type} {R : α → V → Prop} {vs : List V} {xs : List α} {v : V} {x : α} (h : LR R vs xs) (r : R x v) : LR R (vs ++ [v]) (xs ++ [x]) := by
  refine ⟨by rw [List.length_append, List.length_append, h.1]; rfl, fun i y e => ?_⟩
  by_cases hi : i < xs.length
  · rw [List.getElem?_append_left hi] at e
    obtain ⟨u, h1, h2⟩ := h.2 i y e
    exact ⟨u, by rw [List.getElem?_append_left (by rw [h.1]; exact hi)]; exact h1, h2⟩
  · have h2 := (List.getElem?_eq_some_iff.mp e).1
    rw [List.length_append, List.length_singleton] at h2
    have ei : i = xs.length := by omega
    rw [ei, List.getElem?_append_right (Nat.le_refl _)] at e
    have e2 : x = y := by simpa using e
    refine ⟨v, ?_, e2 ▸ r⟩
    rw [ei, ← h.1, List.getElem?_append_right (Nat.le_refl _)]
    simp
theorem lr_at {α : Type} {R : α → V → Prop} {vs : List V} {xs : List α} (h : LR R vs xs) {i : Nat} {v : V} (e : vs[i]? = some v) : ∃ x, xs[i]? = some x ∧ R x v := by
  have hi := (List.getElem?_eq_some_iff.mp e).1
  obtain ⟨u, h1, h2⟩ := h.2 i _ (List.getElem?_eq_getElem (h.1 ▸ hi))
  rw [e] at h1
  cases h1
  exact ⟨_, List.getElem?_eq_getElem (h.1 ▸ hi), h2⟩
theorem lr_cons {α : Type} {R : α → V → Prop} {vs : List V} {xs : List α} {v : V} {x : α} (h : LR R vs xs) (r : R x v) : LR R (v :: vs) (x :: xs) := by
  refine ⟨by rw [List.length_cons, List.length_cons, h.1], fun i y e => ?_⟩
  cases i with
  | zero =>
    have e2 : x = y := by simpa using e
    exact ⟨v, rfl, e2 ▸ r⟩
  | succ i => exact h.2 i y e
theorem lr_drop {α : Type} {R : α → V → Prop} {vs : List V} {xs : List α} (h : LR R vs xs) (k : Nat) : LR R (vs.drop k) (xs.drop k) := by
  refine ⟨by rw [List.length_drop, List.length_drop, h.1], fun i y e => ?_⟩
  rw [List.getElem?_drop] at e ⊢
  exact h.2 _ _ e
theorem take_snoc {α : Type} {xs : List α} {i : Nat} {x : α} (e : xs[i]? = some x) : xs.take (i + 1) = xs.take i ++ [x] := by
  rw [List.take_add_one, e]
  rfl
/-- the dict of a track -/
structure Trep (kvs : List (Key × V)) (f : Int → Int) : Prop where
  nd : (kvs.map (·.1)).Nodup
  ent : ∀ p ∈ kvs, ∃ k v : Int, p = (.inl k, .int v)
  val : ∀ k : Int, (valV kvs (.inl k)).getD (.int 0) = .int (f k)
theorem trep_nil : Trep [] (fun _ => 0) := ⟨List.nodup_nil, fun p h => by simp at h, fun _ => rfl⟩
theorem keys_put {kvs : List (Key × V)} {k : Key} {v : V} (hn : (kvs.map (·.1)).Nodup) : ((putK kvs k v).map (·.1)).Nodup := by
  cases e : valV kvs k with
  | none => exact nd_putK v hn e
  | some u =>
    have a : (kvs.any fun kv => decide (kv.1 = k)) = true := by rw [valV_any, e]; rfl
    unfold putK
    rw [if_pos a, List.map_map]
    have : ((fun x : Key × V => x.1) ∘ fun kv : Key × V => if kv.1 = k then (kv.1, v) else kv) = fun x => x.1 := by
      funext kv
      show (if kv.1 = k then (kv.1, v) else kv).1 = kv.1
      by_cases h : kv.1 = k
      · rw [if_pos h]
      · rw [if_neg h]
    rw [this]
    exact hn
theorem Trep.put {kvs : List (Key × V)} {f : Int → Int} (h : Trep kvs f) (k v : Int) : Trep (putK kvs (.inl k) (.int v)) (fun x => if x = k then v else f x) := by
  refine ⟨keys_put h.nd, fun p hp => ?_, fun j => ?_⟩
  · unfold putK at hp
    split at hp
    · obtain ⟨q, hq, e⟩ := List.mem_map.mp hp
      by_cases c : q.1 = .inl k
      · rw [if_pos c, c] at e
        exact ⟨k, v, e.symm⟩
      · rw [if_neg c] at e
        exact e ▸ h.ent q hq
    · rcases List.mem_append.mp hp with z | z
      · exact h.ent p z
      · exact ⟨k, v, List.mem_singleton.mp z⟩
  · rw [valV_put]
    by_cases c : j = k
    · rw [if_pos (congrArg Sum.inl c)]
      show V.int v = V.int (if j = k then v else f j)
      rw [if_pos c]
    · rw [if_neg fun z => c (Sum.inl.inj z)]
      show _ = V.int (if j = k then v else f j)
      rw [if_neg c]
      exact h.val j
theorem Trep.mem {kvs : List (Key × V)} {f : Int → Int} (h : Trep kvs f) {k v : Int} (m : (Sum.inl k, V.int v) ∈ kvs) : v = f k := by
  have e := val_nodup h.nd _ m
  have := h.val k
  rw [e] at this
  injection this
theorem Trep.has {kvs : List (Key × V)} {f : Int → Int} (h : Trep kvs f) {k : Int} (m : f k ≠ 0) : (Sum.inl k, V.int (f k)) ∈ kvs := by
  have e := h.val k
  cases q : valV kvs (.inl k) with
  | none =>
    rw [q] at e
    have e2 : (0 : Int) = f k := by injection e
    exact absurd e2.symm m
  | some u =>
    rw [q] at e
    have e2 : u = .int (f k) := e
    unfold valV at q
    obtain ⟨p, hp, ep⟩ := Option.map_eq_some_iff.mp q
    have h1 := List.find?_some hp
    have h2 := List.mem_of_find?_eq_some hp
    have h3 : p.1 = .inl k := of_decide_eq_true h1
    have h4 : p = (.inl k, .int (f k)) := by
      rw [← h3, ← e2, ← ep]
    exact h4 ▸ h2
theorem merge_trep : ∀ (more acc : List (Key × V)) (f f0 : Int → Int), Trep acc f0 → (∀ p ∈ more, ∃ k : Int, p = (.inl k, .int (f k))) → ∃ f', Trep (mergeK acc more) f' ∧ ∀ k, f' k = f0 k ∨ f' k = f k
  | [], acc, f, f0, h, _ => ⟨f0, h, fun k => .inl rfl⟩
  | p :: more, acc, f, f0, h, hm => by
    obtain ⟨k, rfl⟩ := hm p List.mem_cons_self
    obtain ⟨f', h1, h2⟩ := merge_trep more _ f _ (h.put k (f k)) fun q hq => hm q (List.mem_cons_of_mem _ hq)
    refine ⟨f', h1, fun j => ?_⟩
    rcases h2 j with e | e
    · by_cases c : j = k
      · rw [if_pos c] at e
        exact .inr (by rw [e, c])
      · rw [if_neg c] at e
        exact .inl e
    · exact .inr e
theorem merge_in : ∀ (more acc : List (Key × V)) (f : Int → Int) (k : Int), (∀ p ∈ more, ∃ k : Int, p = (.inl k, .int (f k))) → ((.inl k, .int (f k)) ∈ more ∨ valV acc (.inl k) = some (.int (f k))) → valV (mergeK acc more) (.inl k) = some (.int (f k))
  | [], acc, f, k, _, h => by
    rcases h with h | h
    · simp at h
    · exact h
  | p :: more, acc, f, k, hm, h => by
    obtain ⟨j, rfl⟩ := hm p List.mem_cons_self
    refine merge_in more _ f k (fun q hq => hm q (List.mem_cons_of_mem _ hq)) ?_
    by_cases c : k = j
    · right
      rw [valV_put, if_pos (congrArg Sum.inl c), c]
    · rcases h with h | h
      · rcases List.mem_cons.mp h with e | e
        · exact absurd (Sum.inl.inj (Prod.mk.inj e).1) c
        · exact .inl e
      · right
        rw [valV_put, if_neg fun z => c (Sum.inl.inj z)]
        exact h
theorem trep_merge {kvs : List (Key × V)} {f : Int → Int} (h1 : ∀ p ∈ kvs, ∃ k : Int, p = (.inl k, .int (f k))) (h2 : ∀ k, f k ≠ 0 → (Sum.inl k, V.int (f k)) ∈ kvs) : Trep (mergeK [] kvs) f := by
  obtain ⟨f', t, e⟩ := merge_trep kvs [] f _ trep_nil h1
  have : f' = f := by
    funext k
    by_cases c : f k = 0
    · rcases e k with q | q
      · rw [q, c]
      · exact q
    · have v := merge_in kvs [] f k h1 (.inl (h2 k c))
      have := t.val k
      rw [v] at this
      injection this with z
      exact z.symm
  exact this ▸ t
/-- what kept tells of a track -/
structure PairsOf (H : Hp) (ys : List V) (f : Int → Int) : Prop where
  all : ∀ y ∈ ys, ∃ p k, y = .ref p ∧ H p = some (.tup [.int k, .int (f k)])
  ex : ∀ k, f k ≠ 0 → ∃ p, V.ref p ∈ ys ∧ H p = some (.tup [.int k, .int (f k)])
theorem pairs_same {H H' : Hp} {ys : List V} {f : Int → Int} (h : PairsOf H ys f) (e : Same H H') : PairsOf H' ys f :=
  ⟨fun y hy => let ⟨p, k, h1, h2⟩ := h.all y hy; ⟨p, k, h1, e _ _ h2⟩, fun k hk => let ⟨p, h1, h2⟩ := h.ex k hk; ⟨p, h1, e _ _ h2⟩⟩
theorem pairs_build {K : PySem.W.Frag} {H : Hp} {f : Int → Int} : ∀ {ys : List V}, (∀ y ∈ ys, ∃ p k, y = .ref p ∧ H p = some (.tup [.int k, .int (f k)])) →
    ∃ (ps : List Addr) (kvs : List (Key × V)), ys = ps.map V.ref ∧ Paired (fun p kv => SqT K H p [kV kv.1, kv.2]) ps kvs ∧ (∀ p ∈ kvs, ∃ k : Int, p = (.inl k, .int (f k))) ∧ ∀ p k, V.ref p ∈ ys → H p = some (.tup [.int k, .int (f k)]) → (Sum.inl k, V.int (f k)) ∈ kvs
  | [], _ => ⟨[], [], rfl, .nil, fun p h => by simp at h, fun p k h => by simp at h⟩
  | y :: ys, h => by
    obtain ⟨p, k, rfl, hp⟩ := h y List.mem_cons_self
    obtain ⟨ps, kvs, rfl, h1, h2, h3⟩ := pairs_build (K := K) (ys := ys) fun z hz => h z (List.mem_cons_of_mem _ hz)
    refine ⟨p :: ps, (.inl k, .int (f k)) :: kvs, rfl, .cons (.of hp) h1, fun q hq => ?_, fun q j hq e => ?_⟩
    · rcases List.mem_cons.mp hq with z | z
      · exact ⟨k, z⟩
      · exact h2 q z
    · rcases List.mem_cons.mp hq with z | z
      · cases z
        rw [hp] at e
        have e2 : k = j := by
          injection e with e
          injection e with e
          injection e with e _
          injection e
        rw [e2]
        exact List.mem_cons_self
      · exact List.mem_cons_of_mem _ (h3 q j z e)
theorem PairsOf.trep {K : PySem.W.Frag} {H : Hp} {ys : List V} {f : Int → Int} (h : PairsOf H ys f) : ∃ (ps : List Addr) (kvs : List (Key × V)), ys = ps.map V.ref ∧ Paired (fun p kv => SqT K H p [kV kv.1, kv.2]) ps kvs ∧ Trep (mergeK [] kvs) f := by
  obtain ⟨ps, kvs, h1, h2, h3, h4⟩ := pairs_build (K := K) h.all
  exact ⟨ps, kvs, h1, h2, trep_merge h3 fun k hk => let ⟨p, m, e⟩ := h.ex k hk; h4 p k m e⟩
/-- the cells of a disk: a list of three dicts -/
structure Cells (H : Hp) (L : Addr) (d : Nat → Addr) (F : Nat → Int → Int) (N : Nat) : Prop where
  lst : H L = some (.lst [.ref (d 0), .ref (d 1), .ref (d 2)])
  dct : ∀ t, t < 3 → ∃ kvs, H (d t) = some (.dK kvs) ∧ Trep kvs (F t) ∧ kvs.length ≤ N
  inj : ∀ t t', t < 3 → t' < 3 → d t = d t' → t = t'
theorem cells_same {H H' : Hp} {L : Addr} {d : Nat → Addr} {F : Nat → Int → Int} {N : Nat} (h : Cells H L d F N) (e : Same H H') : Cells H' L d F N :=
  ⟨e _ _ h.lst, fun t ht => let ⟨k, h1, h2⟩ := h.dct t ht; ⟨k, e _ _ h1, h2⟩, h.inj⟩
/-- a stroke: a tuple of a tuple and a value -/
def StkR (H : Hp) (s : Stk) (v : V) : Prop := ∃ a b, v = .ref a ∧ H a = some (.tup [.ref b, .int s.2.2]) ∧ H b = some (.tup [.int s.1, .int s.2.1])
theorem stk_same {H H' : Hp} (e : Same H H') : ∀ s v, StkR H s v → StkR H' s v := fun s v ⟨a, b, h1, h2, h3⟩ => ⟨a, b, h1, e _ _ h2, e _ _ h3⟩
section
variable
    {P : Program} {w : World} {K : PySem.W.Frag} {mg : Str → Option Value} {base : Heap}
def spLanded (K : PySem.W.Frag) : Sp := fun vs H Q _ => ∃ (L S : Addr) (d : Nat → Addr) (F : Nat → Int → Int) (N : Nat) (ss : List Stk) (us : List V), vs = [.ref L, .ref S] ∧ Cells H L d F N ∧ SqL K H S us ∧ LR (StkR H) us ss ∧ (∀ s ∈ ss, s.1 < 3) ∧ N + ss.length < sizeLine ∧
  ∀ (H' : Hp) (L' : Addr) (d' : Nat → Addr), Same H H' → H L' = none → (∀ t, t < 3 → H (d' t) = none) → Cells H' L' d' (land F ss) (N + ss.length) → Q (.ref L') H'
theorem ok_landed (T : Ev K mg) : OkF P w K mg base CX0 1 "landed" ["cells", "strokes"] (spLanded K) := by
  obtain ⟨fd, F, b⟩ := T.ds_landed
  refine ⟨fd, FunD.ok F cs_landed ?_ ?_, b, F.kp⟩
  · rintro vs H Q E ⟨L, S, d, F, N, ss, us, rfl, _⟩; rfl
  · rintro cdv A outer s H vs Q E hr ⟨L, S, d, F, N, ss, us, rfl, hC, hS, hss, hst, hN, q⟩
    refine ⟨_, pss_cons (ps_setLc (i := 3) (own := [("track", 2)]) (g := gName 2) (tt := tYes) (by rfl) cs_landed.nd rfl rfl (sw_true rfl rfl rfl (by decide +kernel)) (pi_list (pv 0)) (blkOk_by (N := ["cells", "strokes", "track", "found", "at", "value"]) (sc := defScope s_landed) (by decide +kernel)) (fun _ _ _ _ _ => pg_name (i := 2) cs_landed.nd rfl (Or.inl rfl)) (fun _ _ _ _ _ => pts_nil)
        (fun _ _ _ _ _ => pe_callTy call_dictD (by rfl) T.f_dict (by decide +kernel) (pa_cons (pv 2) pa_nil)))
      (pss_cons (ps_for (passes_of rfl) rfl (pi_list (pv 1)) (pg_tup rfl (pgs_cons (pg_tup rfl (pgs_cons (pg_name (i := 2) cs_landed.nd rfl (Or.inl rfl)) (pgs_cons (pg_name (i := 4) cs_landed.nd rfl (Or.inl rfl)) pgs_nil))) (pgs_cons (pg_name (i := 5) cs_landed.nd rfl (Or.inl rfl)) pgs_nil)))
        (pss_one (ps_dput (hu_of hr) (pe_ix ix_list (pv 3) (pv 2) (fun _ _ => rfl)) (pv 4) (pv 5) rfl)))
      (pss_one (ps_ret (pv 3)))), ?_⟩
    refine ⟨_, rfl, L, rfl, ⟨_, .of hC.lst⟩, fun D nD => ?_⟩
    refine lc_list (K := K) (a := L) (xs := [.ref (d 0), .ref (d 1), .ref (d 2)]) (fun i H' => Same H H' ∧ ∃ e : Nat → Addr, H' D = some (.lst ((List.range i).map fun t => V.ref (e t))) ∧
      (∀ t, t < i → H (e t) = none ∧ e t ≠ D ∧ ∃ kvs, H' (e t) = some (.dK kvs) ∧ Trep kvs (F t) ∧ kvs.length ≤ N) ∧ ∀ t t', t < i → t' < i → e t = e t' → t = t') ?_ ?_ ?_ ?_
    · exact ⟨SameN nD, fun _ => D, upd_same, fun t h => absurd h (by omega), fun t t' h => absurd h (by omega)⟩
    · rintro i H' _ ⟨h, _⟩
      exact .of (h _ _ hC.lst)
    · rintro i x H' hx ⟨h, e, hD, he, hi⟩
      have hi3 : i < 3 := (List.getElem?_eq_some_iff.mp hx).1
      have ex : x = .ref (d i) := by
        match i, hi3, hx with
        | 0, _, hx => exact (Option.some.inj hx).symm
        | 1, _, hx => exact (Option.some.inj hx).symm
        | 2, _, hx => exact (Option.some.inj hx).symm
      subst ex
      obtain ⟨kvs, hk, tk, lk⟩ := hC.dct i hi3
      simp only [tYes, ↓reduceIte]
      refine ⟨rfl, _, rfl, d i, kvs, rfl, .inl (h _ _ hk), fun p np => ?_⟩
      have np' : H' p = none := np
      have pD : p ≠ D := fun z => by rw [z, hD] at np'; cases np'
      refine ⟨_, (upd_ne (fun z => pD z.symm)).trans hD, by rw [List.length_map, List.length_range]; exact Nat.lt_of_lt_of_le hi3 (by decide), (s_put (h.trans (SameN np')) nD), fun t => if t = i then p else e t, ?_, fun t ht => ?_, fun t t' ht ht' z => ?_⟩
      · rw [upd_same, List.range_succ, List.map_append]
        have e1 : (List.range i).map (fun t => V.ref (if t = i then p else e t)) = (List.range i).map fun t => V.ref (e t) := by
          refine List.map_congr_left fun t ht => ?_
          rw [if_neg (by have := List.mem_range.mp ht; omega)]
        show some (HO.lst (_ ++ [V.ref p])) = some (HO.lst ((List.range i).map (fun t => V.ref (if t = i then p else e t)) ++ [V.ref (if i = i then p else e i)]))
        rw [e1, if_pos rfl]
      · by_cases c : t = i
        · simp only [if_pos c]
          refine ⟨h.free np', pD, kvs, ?_, c ▸ tk, lk⟩
          rw [upd_ne pD, upd_same]
        · simp only [if_neg c]
          obtain ⟨h1, h2, kv, h3, h4⟩ := he t (by omega)
          refine ⟨h1, h2, kv, ?_, h4⟩
          rw [upd_ne h2, upd_ne (fun z => by rw [z, np'] at h3; cases h3)]
          exact h3
      · have sep : ∀ t, t < i → e t ≠ p := fun t ht z => by
          obtain ⟨h1, h2, kv, h3, h4⟩ := he t ht
          rw [z, np'] at h3
          cases h3
        by_cases c : t = i <;> by_cases c' : t' = i
        · omega
        · simp only [if_pos c, if_neg c'] at z
          exact absurd z.symm (sep t' (by omega))
        · simp only [if_neg c, if_pos c'] at z
          exact absurd z (sep t (by omega))
        · simp only [if_neg c, if_neg c'] at z
          exact hi t t' (by omega) (by omega) z
    · rintro H1 ⟨h1, e, hD, he, hi⟩
      refine ⟨_, rfl, S, rfl, ⟨_, h1.seq hS⟩, ?_⟩
      refine for_list (K := K) (a := S) (xs := us) (fun i σ H' => Same H H' ∧ (∃ x2 x4 x5, σ = [some (.ref L), some (.ref S), x2, some (.ref D), x4, x5]) ∧ Cells H' D e (land F (ss.take i)) (N + i)) ?_ ?_ ?_ ?_
      · exact ⟨h1, ⟨_, _, _, rfl⟩, hD, fun t ht => (he t ht).2.2, hi⟩
      · rintro i σ H' _ ⟨h, _⟩
        exact h.seq hS
      · rintro i x σ H' hx ⟨h, ⟨x2, x4, x5, rfl⟩, c⟩
        obtain ⟨st, hst2, a, bb, rfl, ha, hb⟩ := lr_at hss hx
        obtain ⟨t, at_, v⟩ := st
        have ht3 : t < 3 := hst _ (List.mem_of_getElem? hst2)
        refine ⟨a, _, rfl, .of (h _ _ ha), rfl, _, _, rfl, bb, _, rfl, .of (h _ _ hb), rfl, _, _, rfl, _, _, rfl, rfl, _, _, rfl, rfl, ?_⟩
        obtain ⟨kvs, hk, tk, lk⟩ := c.dct t ht3
        have hl := (List.getElem?_eq_some_iff.mp hst2).1
        have hat : atI [V.ref (e 0), V.ref (e 1), V.ref (e 2)] (t : Int) = some (.ref (e t)) := by
          refine atI_nat ?_
          match t, ht3 with
          | 0, _ => rfl
          | 1, _ => rfl
          | 2, _ => rfl
        refine ⟨_, rfl, _, rfl, _, rfl, D, _, _, _, rfl, rfl, .of c.lst, hat, _, rfl, e t, _, rfl, DPut.k (k := Sum.inl at_) hk (by omega), ?_⟩
        have nt : H (e t) = none := (he t ht3).1
        refine ⟨s_put h nt, ⟨_, _, _, rfl⟩, ?_⟩
        rw [take_snoc hst2]
        have el : land F (ss.take i ++ [(t, at_, v)]) = land1 (land F (ss.take i)) (t, at_, v) := by
          unfold land
          rw [List.foldl_append]
          rfl
        rw [el]
        refine ⟨?_, fun t' ht' => ?_, c.inj⟩
        · rw [upd_ne (fun z => by rw [← z, c.lst] at hk; cases hk)]
          exact c.lst
        · by_cases et : t' = t
          · rw [et, upd_same]
            refine ⟨_, rfl, ?_, Nat.le_trans (length_putK _ _ _) (by omega)⟩
            have := tk.put at_ v
            have ef : land1 (land F (ss.take i)) (t, at_, v) t = fun x => if x = at_ then v else land F (ss.take i) t x := by
              funext x
              show (if t = t ∧ x = at_ then v else _) = _
              by_cases cx : x = at_
              · rw [if_pos ⟨rfl, cx⟩, if_pos cx]
              · rw [if_neg fun z => cx z.2, if_neg cx]
            rw [ef]
            exact this
          · rw [upd_ne (fun z => et (c.inj _ _ ht' ht3 z))]
            obtain ⟨kv, h1, h2, h3⟩ := c.dct t' ht'
            refine ⟨kv, h1, ?_, by omega⟩
            have ef : land1 (land F (ss.take i)) (t, at_, v) t' = land F (ss.take i) t' := by
              funext x
              exact if_neg fun z => et z.1
            rw [ef]
            exact h2
      · rintro σ H' ⟨h, ⟨x2, x4, x5, rfl⟩, c⟩
        refine ⟨_, rfl, ?_⟩
        rw [hss.1, List.take_length] at c
        exact q H' D e h nD (fun t ht => (he t ht).1) c
def spPairs : Sp := fun vs H Q _ => ∃ (d : Addr) (kvs : List (Key × V)) (f : Int → Int), vs = [.ref d] ∧ H d = some (.dK kvs) ∧ Trep kvs f ∧ kvs.length < sizeLine ∧
  ∀ (H' : Hp) (t : Addr) (o : Obj) (ys : List V), Same H H' → H t = none → H' t = some (.frz o (.tup ys)) → o.dict = none → PairsOf H' ys f → Q (.ref t) H'
theorem ok_pairs_in (T : Ev K mg) : OkF P w K mg base CX0 1 "pairs_in" ["track"] spPairs := by
  obtain ⟨fd, F, b⟩ := T.ds_pairs_in
  refine ⟨fd, FunD.ok F cs_pairs_in ?_ ?_, b, F.kp⟩
  · rintro vs H Q E ⟨d, kvs, f, rfl, _⟩; rfl
  · rintro cdv A outer s H vs Q E hr ⟨d, kvs, f, rfl, hd, tk, hl, q⟩
    refine ⟨_, pss_one (ps_ret (pe_callTy call_tuple_frz (by rfl) T.f_tuple (by decide +kernel) (pa_cons (pe_callB cr_sortedP (by rfl) T.f_sorted (by decide +kernel) (pa_cons
      (pe_lock (pe_lc (own := [("at", 1), ("value", 2)]) (g := gT2 K 1 2) rfl cs_pairs_in.nd (pi_items (pv 0)) (blkOk_by (N := ["track", "at", "value"]) (sc := defScope s_pairs_in) (by decide +kernel))
        (fun _ _ _ _ _ => pg_tup rfl (pgs_cons (pg_name (i := 1) cs_pairs_in.nd rfl (Or.inl rfl)) (pgs_cons (pg_name (i := 2) cs_pairs_in.nd rfl (Or.inl rfl)) pgs_nil)))
        (fun _ _ _ _ _ => pts_one (pt_cmpR op_ne (pv 2) pe_int (nomark _)))
        (fun _ _ _ _ _ => pe_tup (pa_cons (pv 1) (pa_cons (pv 2) pa_nil))))) pa_nil)) pa_nil))), ?_⟩
    refine ⟨d, .dK kvs, hd, trivial, fun od => ⟨_, rfl, d, od, kvs, rfl, upd_same, fun D nD => ?_⟩⟩
    have nd : D ≠ d := fun z => by rw [z, upd_same] at nD; cases nD
    have nD0 : H D = none := by rw [upd_ne nd] at nD; exact nD
    refine lc_it (walk_items (d := d) (o := od) (kvs := kvs)) (fun i H' => Same (upd H d (.frz od (.dK kvs))) H' ∧ ∃ acc, H' D = some (.lst acc) ∧ acc.length ≤ i ∧
      (∀ y ∈ acc, ∃ p k, y = .ref p ∧ H' p = some (.tup [.int k, .int (f k)])) ∧ ∀ (j : Nat) (k : Int), j < i → kvs[j]? = some (.inl k, .int (f k)) → f k ≠ 0 → ∃ p, V.ref p ∈ acc ∧ H' p = some (.tup [.int k, .int (f k)])) ?_ ?_ ?_ ?_
    · exact ⟨SameN nD, [], upd_same, Nat.zero_le _, fun y h => by simp at h, fun j k h => absurd h (by omega)⟩
    · rintro i H' _ ⟨h, _⟩
      exact h _ _ upd_same
    · rintro i x H2 H3 hi ⟨h, acc, hD, hlen, ha, hx⟩ ⟨t, kk, vv, rfl, nt, rfl, e1, e2⟩
      have e0 : kvs[i]? = some kvs[i] := List.getElem?_eq_getElem hi
      have e1 : (kvs[i]?).map (fun kv => kV kv.1) = some kk := e1
      have e2 : (kvs[i]?).map Prod.snd = some vv := e2
      obtain ⟨k, v, ekv⟩ := tk.ent _ (List.getElem_mem hi)
      rw [e0] at e1 e2
      rw [ekv] at e1 e2
      cases e1
      cases e2
      have hv : v = f k := tk.mem (ekv ▸ List.getElem_mem hi)
      subst hv
      have sN : Same H2 (upd H2 t (.tup [.int k, .int (f k)])) := SameN nt
      refine ⟨t, _, rfl, .of upd_same, rfl, _, _, rfl, _, _, rfl, rfl, rfl, _, rfl, rfl, _, rfl, ?_⟩
      have keep : ∀ (j : Nat) (k' : Int) (H4 : Hp) (acc' : List V), Same H2 H4 → (∀ y ∈ acc, y ∈ acc') → j < i → kvs[j]? = some (.inl k', .int (f k')) → f k' ≠ 0 → ∃ p, V.ref p ∈ acc' ∧ H4 p = some (.tup [.int k', .int (f k')]) := fun j k' H4 acc' hS hm hj ej hf => by
        obtain ⟨p, h1, h2⟩ := hx j k' hj ej hf
        exact ⟨p, hm _ h1, hS _ _ h2⟩
      refine ite2 (fun hc => ?_) (fun hc => ?_)
      rotate_left
      · have c : f k = 0 := by
          by_cases c : f k = 0
          · exact c
          · refine absurd ?_ hc
            show (!decide (V.int (f k) = V.int 0)) = true
            rw [decide_eq_false fun z => c (by injection z)]
            rfl
        refine ⟨h.trans sN, acc, sN _ _ hD, by omega, fun y hy => ?_, fun j k' hj ej hf => ?_⟩
        · obtain ⟨p, k', h1, h2⟩ := ha y hy
          exact ⟨p, k', h1, sN _ _ h2⟩
        · by_cases cj : j = i
          · rw [cj, e0, ekv] at ej
            cases ej
            exact absurd c hf
          · exact keep j k' _ acc sN (fun _ h => h) (by omega) ej hf
      · have c : f k ≠ 0 := fun z => by
          have hc : (!decide (V.int (f k) = V.int 0)) = true := hc
          rw [z] at hc
          exact absurd hc (by decide)
        refine ⟨_, rfl, _, rfl, by show 2 ≤ sizeLine; decide, fun p np => ?_⟩
        have np : upd H2 t (.tup [.int k, .int (f k)]) p = none := np
        have sP : Same (upd H2 t (.tup [.int k, .int (f k)])) (upd (upd H2 t (.tup [.int k, .int (f k)])) p (.tup [.int k, .int (f k)])) := SameN np
        have hD4 : upd (upd H2 t (.tup [.int k, .int (f k)])) p (.tup [.int k, .int (f k)]) D = some (.lst acc) := sP _ _ (sN _ _ hD)
        have pD : p ≠ D := fun z => by rw [z, sN _ _ hD] at np; cases np
        have nl : ∀ (b : Addr) (xs : List V), upd (upd H2 t (.tup [.int k, .int (f k)])) p (.tup [.int k, .int (f k)]) b = some (.tup xs) → upd (upd (upd H2 t (.tup [.int k, .int (f k)])) p (.tup [.int k, .int (f k)])) D (.lst (acc ++ [.ref p])) b = some (.tup xs) := fun b xs e => by
          rw [upd_ne (fun z => by rw [z, hD4] at e; cases e)]
          exact e
        refine ⟨acc, hD4, by have := hlen; omega, s_put (h.trans (sN.trans sP)) nD, _, upd_same, by rw [List.length_append, List.length_singleton]; omega, fun y hy => ?_, fun j k' hj ej hf => ?_⟩
        · rcases List.mem_append.mp hy with z | z
          · obtain ⟨p', k', h1, h2⟩ := ha y z
            exact ⟨p', k', h1, nl _ _ (sP _ _ (sN _ _ h2))⟩
          · exact ⟨p, k, List.mem_singleton.mp z, nl _ _ upd_same⟩
        · by_cases cj : j = i
          · rw [cj, e0, ekv] at ej
            cases ej
            exact ⟨p, List.mem_append_right _ (List.mem_singleton.mpr rfl), nl _ _ upd_same⟩
          · obtain ⟨p', h1, h2⟩ := keep j k' _ acc (sN.trans sP) (fun _ h => h) (by omega) ej hf
            exact ⟨p', List.mem_append_left _ h1, nl _ _ h2⟩
    · rintro H2 ⟨h, acc, hD, hlen, ha, hx⟩
      have hd2 : H2 d = some (.frz od (.dK kvs)) := h _ _ upd_same
      have back : ∀ (b : Addr) (xs : List V), H2 b = some (.tup xs) → upd H2 d (.dK kvs) b = some (.tup xs) := fun b xs e => by
        rw [upd_ne (fun z => by rw [z, hd2] at e; cases e)]
        exact e
      have sB : Same H (upd H2 d (.dK kvs)) := fun b u hb => by
        by_cases z : b = d
        · rw [z, hd] at hb
          rw [z, upd_same]
          exact hb
        · rw [upd_ne z]
          exact h b u ((upd_ne z).trans hb)
      refine ⟨hd2, D, acc, rfl, .of ((upd_ne nd).trans hD), fun y hy => ?_, fun ys p hp np => ?_⟩
      · obtain ⟨p, k, h1, h2⟩ := ha y hy
        exact ⟨p, _, _, h1, back _ _ h2⟩
      · have sP := SameN (o := HO.lst ys) np
        refine ⟨p, ys, rfl, .of upd_same, fun t o nt ho => ?_⟩
        have sT := SameN (o := HO.frz o (.tup ys)) nt
        refine q _ t o ys (sB.trans (sP.trans sT)) ((sB.trans sP).free nt) upd_same ho ⟨fun y hy => ?_, fun k hk => ?_⟩
        · obtain ⟨p', k, h1, h2⟩ := ha y (hp.mem_iff.mp hy)
          exact ⟨p', k, h1, sT _ _ (sP _ _ (back _ _ h2))⟩
        · obtain ⟨j, ej⟩ := List.mem_iff_getElem?.mp (tk.has hk)
          obtain ⟨p', h1, h2⟩ := hx j k (List.getElem?_eq_some_iff.mp ej).1 ej hk
          exact ⟨p', hp.mem_iff.mpr h1, sT _ _ (sP _ _ (back _ _ h2))⟩
end
end PB

/-! a disk in the heap -/
namespace PB
open PySem PySem.Spec PyProof.Rows L2
/-- what may have changed: Fo, behind it Fo' -/
structure Stp (Fo Fo' : Addr → Prop) (H H' : Hp) : Prop where
  keep : ∀ b o, H b = some o → ¬ Fo b → H' b = some o
  new : ∀ b, Fo' b → Fo b ∨ H b = none
  tup : ∀ b xs, H b = some (.tup xs) → H' b = some (.tup xs)
theorem Stp.trans {A B C : Addr → Prop} {H H1 H2 : Hp} (a : Stp A B H H1) (b : Stp B C H1 H2) : Stp A C H H2 := by
  refine ⟨fun x o e n => b.keep x o (a.keep x o e n) fun z => ?_, fun x z => ?_, fun x xs e => b.tup x xs (a.tup x xs e)⟩
  · rcases a.new x z with q | q
    · exact n q
    · rw [q] at e; cases e
  · rcases b.new x z with q | q
    · exact a.new x q
    · by_cases f : A x
      · exact .inl f
      · right
        cases e : H x with
        | none => rfl
        | some o =>
          rw [a.keep x o e f] at q
          cases q
theorem stp_same {A : Addr → Prop} {H H' : Hp} (e : Same H H') : Stp A A H H' := ⟨fun b o h _ => e b o h, fun _ h => .inl h, fun b xs h => e b _ h⟩
theorem stp_upd {A : Addr → Prop} {H : Hp} {p : Addr} {o u : HO} (hp : A p) (e : H p = some o) (n : ∀ xs, o ≠ .tup xs) : Stp A A H (upd H p u) :=
  ⟨fun b v h nb => by rw [upd_ne (fun z => nb (by rw [z]; exact hp))]; exact h, fun _ h => .inl h, fun b xs h => by
    rw [upd_ne (fun z => by rw [z, e] at h; exact n xs (Option.some.inj h))]
    exact h⟩
theorem stp_wide {A B C : Addr → Prop} {H H' : Hp} (s : Stp A B H H') (hc : ∀ b, A b → C b) : Stp C (fun b => B b ∨ C b) H H' :=
  ⟨fun b o h n => s.keep b o h fun z => n (hc b z), fun b h => by
    rcases h with h | h
    · rcases s.new b h with q | q
      · exact .inl (hc b q)
      · exact .inr q
    · exact .inl h, s.tup⟩
theorem Stp.sqt {K : PySem.W.Frag} {A B : Addr → Prop} {H H' : Hp} (s : Stp A B H H') {a : Addr} {xs : List V} (h : H a = some (.tup xs) ∨ ∃ o its n, K.lookup a = some o ∧ o.cls = .type "tuple" ∧ o.data = .seq its n ∧ its.size ≤ sizeLine ∧ Vals xs its.toList) : SqT K H' a xs := by
  rcases h with h | h
  · exact .of (s.tup _ _ h)
  · exact .inr h
theorem upd_id {H : Hp} {p : Addr} {o : HO} (h : H p = some o) : upd H p o = H := by
  funext b
  unfold upd
  split
  · next e => rw [e, h]
  · rfl
/-- a disk as the proof sees it -/
structure Dk where
  dx : Addr
  L : Addr
  S : Addr
  Fr : Addr
  d : Nat → Addr
  F : Nat → Int → Int
  ss : List Stk
  us : List V
  fr : List (List Key × V)
  left : V
  N : Nat
abbrev fsD (L S Fr : Addr) (left : V) : List (Str × V) := [("cells", .ref L), ("strokes", .ref S), ("fresh", .ref Fr), ("left", left)]
def LeftOk (v : V) : Prop := v = .non ∨ ∃ n : Int, v = .int n
structure DiskAt (K : PySem.W.Frag) (H : Hp) (p : Addr) (D : Dk) : Prop where
  obj : H p = some (.ins (He.ga K "Disk") D.dx (fsD D.L D.S D.Fr D.left))
  cel : Cells H D.L D.d D.F D.N
  stk : H D.S = some (.lst D.us)
  rel : LR (StkR H) D.us D.ss
  frs : H D.Fr = some (.dT D.fr)
  frl : D.fr.length ≤ D.ss.length
  low : ∀ s ∈ D.ss, s.1 < 3
  lft : LeftOk D.left
  ls : D.L ≠ D.S
  sz : D.N ≤ 100000
  ss : D.ss.length ≤ 1000
def foot (p : Addr) (D : Dk) (b : Addr) : Prop := b = p ∨ b = D.L ∨ b = D.S ∨ b = D.Fr ∨ ∃ t, t < 3 ∧ b = D.d t
section
variable {K : PySem.W.Frag} {H H' : Hp} {p : Addr} {D : Dk}
theorem DiskAt.has (h : DiskAt K H p D) {b : Addr} (f : foot p D b) : ∃ o, H b = some o ∧ ∀ xs, o ≠ .tup xs := by
  rcases f with rfl | rfl | rfl | rfl | ⟨t, ht, rfl⟩
  · exact ⟨_, h.obj, fun _ z => nomatch z⟩
  · exact ⟨_, h.cel.lst, fun _ z => nomatch z⟩
  · exact ⟨_, h.stk, fun _ z => nomatch z⟩
  · exact ⟨_, h.frs, fun _ z => nomatch z⟩
  · obtain ⟨kvs, e, _⟩ := h.cel.dct t ht
    exact ⟨_, e, fun _ z => nomatch z⟩
theorem DiskAt.keep (h : DiskAt K H p D) (e : ∀ b o, foot p D b → H b = some o → H' b = some o) (t : ∀ b xs, H b = some (.tup xs) → H' b = some (.tup xs)) : DiskAt K H' p D :=
  ⟨e _ _ (.inl rfl) h.obj, ⟨e _ _ (.inr (.inl rfl)) h.cel.lst, fun i hi => let ⟨k, h1, h2⟩ := h.cel.dct i hi; ⟨k, e _ _ (.inr (.inr (.inr (.inr ⟨i, hi, rfl⟩)))) h1, h2⟩, h.cel.inj⟩, e _ _ (.inr (.inr (.inl rfl))) h.stk,
    lr_mono h.rel fun s v ⟨a, b, h1, h2, h3⟩ => ⟨a, b, h1, t _ _ h2, t _ _ h3⟩, e _ _ (.inr (.inr (.inr (.inl rfl)))) h.frs, h.frl, h.low, h.lft, h.ls, h.sz, h.ss⟩
theorem DiskAt.same (h : DiskAt K H p D) (e : Same H H') : DiskAt K H' p D := h.keep (fun b o _ q => e b o q) fun b xs q => e b _ q
theorem DiskAt.apart (h : DiskAt K H p D) {A B : Addr → Prop} (s : Stp A B H H') (n : ∀ b, foot p D b → ¬ A b) : DiskAt K H' p D := h.keep (fun b o f q => s.keep b o q (n b f)) s.tup
/-- places of a disk stand apart -/
theorem DiskAt.pL (h : DiskAt K H p D) : p ≠ D.L := ne_of h.obj h.cel.lst (fun z => nomatch z)
theorem DiskAt.pS (h : DiskAt K H p D) : p ≠ D.S := ne_of h.obj h.stk (fun z => nomatch z)
theorem DiskAt.pF (h : DiskAt K H p D) : p ≠ D.Fr := ne_of h.obj h.frs (fun z => nomatch z)
theorem DiskAt.pd (h : DiskAt K H p D) {t : Nat} (ht : t < 3) : p ≠ D.d t := let ⟨_, e, _⟩ := h.cel.dct t ht; ne_of h.obj e (fun z => nomatch z)
theorem DiskAt.SF (h : DiskAt K H p D) : D.S ≠ D.Fr := ne_of h.stk h.frs (fun z => nomatch z)
theorem DiskAt.Sd (h : DiskAt K H p D) {t : Nat} (ht : t < 3) : D.S ≠ D.d t := let ⟨_, e, _⟩ := h.cel.dct t ht; ne_of h.stk e (fun z => nomatch z)
theorem DiskAt.LF (h : DiskAt K H p D) : D.L ≠ D.Fr := ne_of h.cel.lst h.frs (fun z => nomatch z)
theorem DiskAt.Fd (h : DiskAt K H p D) {t : Nat} (ht : t < 3) : D.Fr ≠ D.d t := let ⟨_, e, _⟩ := h.cel.dct t ht; ne_of h.frs e (fun z => nomatch z)
theorem DiskAt.left (h : DiskAt K H p D) {v : V} (hv : LeftOk v) : DiskAt K (upd H p (.ins (He.ga K "Disk") D.dx (fsD D.L D.S D.Fr v))) p { D with left := v } := by
  refine ⟨upd_same, ⟨(upd_ne h.pL.symm).trans h.cel.lst, fun i hi => let ⟨k, h1, h2⟩ := h.cel.dct i hi; ⟨k, (upd_ne (h.pd hi).symm).trans h1, h2⟩, h.cel.inj⟩, (upd_ne h.pS.symm).trans h.stk,
    lr_mono h.rel fun s v ⟨a, b, h1, h2, h3⟩ => ⟨a, b, h1, ?_, ?_⟩, (upd_ne h.pF.symm).trans h.frs, h.frl, h.low, hv, h.ls, h.sz, h.ss⟩
  · rw [upd_ne (fun z => by rw [z, h.obj] at h2; cases h2)]; exact h2
  · rw [upd_ne (fun z => by rw [z, h.obj] at h3; cases h3)]; exact h3
theorem DiskAt.stpLeft (h : DiskAt K H p D) (v : V) : Stp (foot p D) (foot p { D with left := v }) H (upd H p (.ins (He.ga K "Disk") D.dx (fsD D.L D.S D.Fr v))) := stp_upd (.inl rfl) h.obj fun _ z => nomatch z
/-- one stroke more -/
theorem DiskAt.stroke (h : DiskAt K H p D) {a b : Addr} {t : Nat} {x v : Int} (ha : H a = some (.tup [.ref b, .int v])) (hb : H b = some (.tup [.int t, .int x])) (ht : t < 3) (hs : D.ss.length < 1000) (fk : List Key) :
    DiskAt K (upd (upd H D.S (.lst (D.us ++ [.ref a]))) D.Fr (.dT (putK D.fr fk (.int v)))) p { D with ss := D.ss ++ [(t, x, v)], us := D.us ++ [.ref a], fr := putK D.fr fk (.int v) } := by
  have tk : ∀ b xs, H b = some (.tup xs) → upd (upd H D.S (.lst (D.us ++ [.ref a]))) D.Fr (.dT (putK D.fr fk (.int v))) b = some (.tup xs) := fun b xs e => by
    rw [upd_ne (fun z => by rw [z, h.frs] at e; cases e), upd_ne (fun z => by rw [z, h.stk] at e; cases e)]
    exact e
  refine ⟨?_, ⟨?_, fun i hi => ?_, h.cel.inj⟩, ?_, ?_, upd_same, ?_, ?_, h.lft, h.ls, h.sz, ?_⟩
  · rw [upd_ne h.pF, upd_ne h.pS]; exact h.obj
  · rw [upd_ne h.LF, upd_ne h.ls]; exact h.cel.lst
  · obtain ⟨k, h1, h2⟩ := h.cel.dct i hi
    exact ⟨k, by rw [upd_ne (h.Fd hi).symm, upd_ne (h.Sd hi).symm]; exact h1, h2⟩
  · rw [upd_ne h.SF, upd_same]
  · exact lr_snoc (lr_mono h.rel fun s v ⟨a, b, h1, h2, h3⟩ => ⟨a, b, h1, tk _ _ h2, tk _ _ h3⟩) ⟨a, b, rfl, tk _ _ ha, tk _ _ hb⟩
  · refine Nat.le_trans (length_putK _ _ _) ?_
    rw
        [List.length_append, List.length_singleton]
    have := h.frl
    omega
  · intro s hs
    rcases List.mem_append.mp hs with z | z
    · exact h.low s z
    · rw [List.mem_singleton.mp z]; exact ht
  · rw
        [List.length_append, List.length_singleton]; omega
end
/-- a method keeps a promise -/
def OkM (P : Program) (w : World) (K : PySem.W.Frag) (mg : Str → Option Value) (base : Heap) (CX : CXT) (k : Nat) (C m : Str) (ps : List Str) (sp : Sp) : Prop :=
  ∃ fd, FnOk P w K mg base CX k (He.ma K (He.ga K C) m) fd ps sp ∧ Binds K fd ps []
section
variable
    {P : Program} {w : World} {K : PySem.W.Frag} {mg : Str → Option Value} {base : Heap}
abbrev OutE (K : PySem.W.Frag) (E : XK) (H : Hp) : Prop := E (.ref (He.ga K "Out")) none H
def spSpend (K : PySem.W.Frag) : Sp := fun vs H Q E => ∃ (p : Addr) (D : Dk), vs = [.ref p] ∧ DiskAt K H p D ∧ (∀ (H' : Hp) (v : V), DiskAt K H' p { D with left := v } → Stp (foot p D) (foot p { D with left := v }) H H' → Q .non H') ∧ OutE K E H
theorem ok_spend (T : Ev K mg) : OkM P w K mg base (L2.CX P w) 1 "Disk" "spend" ["self"] (spSpend K) := by
  obtain ⟨fd, F, b⟩ := T.dsD_spend
  obtain ⟨x1, x2, x3, x4⟩ := T.x_Out
  refine ⟨fd, FunD.ok F csD_spend ?_ ?_, b⟩
  · rintro vs H Q E ⟨p, D, rfl, _⟩; rfl
  · rintro cdv A outer s H vs Q E hr ⟨p, D, rfl, h, q, qE⟩
    refine ⟨_, pss_one (ps_if (pt_cmpR op_notN (pe_fld (pv 0) rfl) pe_non (nomark _))
      (pss_cons (ps_if (pt_cmpR op_eq (pe_fld (pv 0) rfl) pe_int (nomark _)) (pss_one (ps_raise rfl (takes_of rfl rfl rfl rfl) (pmk_own0 PySem.F.excBase_ValueError x1 T.g_Out x2 (raises_own x3 x4) rfl))) pss_nil)
        (pss_one (ps_fld (pv 0) (pe_op op_sub (pe_fld (pv 0) rfl) pe_int) rfl))) pss_nil), ?_⟩
    refine ⟨_, rfl, p, _, _, _, _, rfl, h.obj, T.c_Disk, T.nD_left, rfl, rfl, _, rfl, ?_⟩
    rcases h.lft with e | ⟨n, e⟩
    · have hh := h.left (v := D.left) h.lft
      have hs := h.stpLeft D.left
      rw [upd_id h.obj] at hh hs
      rw [e] at hh hs ⊢
      exact iteF (q _ _ hh hs)
    · rw [e]
      refine iteT ⟨_, rfl, p, _, _, _, _, rfl, h.obj, T.c_Disk, T.nD_left, rfl, by rw [e]; rfl, _, rfl, ite2 (fun _ => qE) fun _ => ?_⟩
      refine ⟨_, rfl, p, _, _, _, _, rfl, h.obj, T.c_Disk, T.nD_left, rfl, n, 1, e, rfl, ?_⟩
      exact ⟨_, rfl, p, _, _, _, rfl, h.obj, T.c_Disk, T.nD_left, by show 4 < 1000; decide, q _ _ (h.left (.inr ⟨_, rfl⟩)) (h.stpLeft _)⟩
/-- the strokes land, the rest is forgotten -/
def spSettle (K : PySem.W.Frag) : Sp := fun vs H Q _ => ∃ (p : Addr) (D : Dk) (S : Addr) (us : List V) (ss : List Stk), vs = [.ref p, .ref S] ∧ DiskAt K H p D ∧ SqL K H S us ∧ LR (StkR H) us ss ∧ (∀ s ∈ ss, s.1 < 3) ∧ D.N + ss.length ≤ 100000 ∧
  ∀ (H' : Hp) (D' : Dk), DiskAt K H' p D' → D'.F = land D.F ss → D'.ss = [] → D'.left = D.left → D'.N = D.N + ss.length → Stp (foot p D) (foot p D') H H' → Q .non H'
theorem ok_settle (T : Ev K mg) : OkM P w K mg base CX0 2 "Disk" "settle" ["self", "strokes"] (spSettle K) := by
  obtain ⟨fd, F, b⟩ := T.dsD_settle
  obtain ⟨fL, GL, bL, kL⟩ := ok_landed (P := P) (w := w) (base := base) T
  refine ⟨fd, FunD.ok F csD_settle ?_ ?_, b⟩
  · rintro vs H Q E ⟨p, D, S, us, ss, rfl, _⟩; rfl
  · rintro cdv A outer s H vs Q E hr ⟨p, D, S, us, ss, rfl, h, hS, hrel, hlow, hN, q⟩
    refine ⟨_, pss_cons (ps_fld (pv 0) (pe_call GL hr rfl T.g_landed kL bL .nil pass0 (pa_cons (pe_fld (pv 0) rfl) (pa_cons (pv 1) pa_nil))) rfl)
      (pss_cons (ps_fld (pv 0) (pe_lst pa_nil) rfl) (pss_one (ps_fld (pv 0) pe_dnewT rfl))), ?_⟩
    refine ⟨_, rfl, p, _, _, _, _, rfl, h.obj, T.c_Disk, T.nD_cells, rfl, _, rfl, D.L, S, D.d, D.F, D.N, ss, us, rfl, h.cel, hS, hrel, hlow, Nat.lt_of_le_of_lt hN (by decide), ?_⟩
    intro H1 L1 d1 e1 nL nd c1
    have o1 := e1 _ _ h.obj
    refine ⟨_, rfl, p, _, _, _, rfl, o1, T.c_Disk, T.nD_cells, by show 4 < 1000; decide, ?_⟩
    refine ⟨Nat.zero_le _, fun S2 n2 => ?_⟩
    generalize ha0 : upd H1 p (.ins (He.ga K "Disk") D.dx (putF "cells" (.ref L1) (fsD D.L D.S D.Fr D.left))) = a0 at n2 ⊢
    have o2 : a0 p = some (.ins (He.ga K "Disk") D.dx (fsD L1 D.S D.Fr D.left)) := by rw [← ha0]; exact upd_same
    have k2 : ∀ b o, b ≠ p → H1 b = some o → a0 b = some o := fun b o n e => by rw [← ha0, upd_ne n]; exact e
    have o3 : upd a0 S2 (.lst []) p = some (.ins (He.ga K "Disk") D.dx (fsD L1 D.S D.Fr D.left)) := (upd_ne (nne o2 n2)).trans o2
    refine ⟨_, rfl, p, _, _, _, rfl, o3, T.c_Disk, T.nD_strokes, by show 4 < 1000; decide, ?_⟩
    refine fun F2 n3 => ?_
    generalize ha2 : upd (upd a0 S2 (.lst [])) p (.ins (He.ga K "Disk") D.dx (putF "strokes" (.ref S2) (fsD L1 D.S D.Fr D.left))) = a2 at n3 ⊢
    have o4 : a2 p = some (.ins (He.ga K "Disk") D.dx (fsD L1 S2 D.Fr D.left)) := by rw [← ha2]; exact upd_same
    have p2 : S2 ≠ p := (nne o2 n2).symm
    have k4 : ∀ b o, b ≠ p → H1 b = some o → a2 b = some o := fun b o n e => by
      have := k2 b o n e
      rw [← ha2, upd_ne n, upd_ne (nne this n2)]
      exact this
    have s4 : a2 S2 = some (.lst []) := by rw [← ha2, upd_ne p2]; exact upd_same
    have o5 : upd a2 F2 (.dT []) p = some (.ins (He.ga K "Disk") D.dx (fsD L1 S2 D.Fr D.left)) := (upd_ne (nne o4 n3)).trans o4
    refine ⟨_, rfl, p, _, _, _, rfl, o5, T.c_Disk, T.nD_fresh, by show 4 < 1000; decide, ?_⟩
    show Q .non (upd (upd a2 F2 (.dT [])) p (.ins (He.ga K "Disk") D.dx (fsD L1 S2 F2 D.left)))
    have p3 : F2 ≠ p := (nne o4 n3).symm
    have k6 : ∀ b o, b ≠ p → a2 b = some o → upd (upd a2 F2 (.dT [])) p (.ins (He.ga K "Disk") D.dx (fsD L1 S2 F2 D.left)) b = some o := fun b o n e => by
      rw [upd_ne n, upd_ne (nne e n3)]
      exact e
    have k7 : ∀ b o, b ≠ p → H1 b = some o → upd (upd a2 F2 (.dT [])) p (.ins (He.ga K "Disk") D.dx (fsD L1 S2 F2 D.left)) b = some o := fun b o n e => k6 b o n (k4 b o n e)
    have pn : ∀ b, H b = none → b ≠ p := fun b e z => by rw [z, h.obj] at e; cases e
    have free : ∀ b, b ≠ p → a0 b = none → H b = none := fun b n e => by
      cases q2 : H b with
      | none => rfl
      | some o => rw [k2 b o n (e1 _ _ q2)] at e; cases e
    have free2 : ∀ b, b ≠ p → a2 b = none → H b = none := fun b n e => by
      cases q2 : H b with
      | none => rfl
      | some o => rw [k4 b o n (e1 _ _ q2)] at e; cases e
    refine q _ { D with L := L1, S := S2, Fr := F2, d := d1, F := land D.F ss, ss := [], us := [], fr := [], N := D.N + ss.length } ?_ rfl rfl rfl rfl ?_
    · refine ⟨upd_same, ⟨k7 _ _ (pn _ nL) c1.lst, fun t ht => let ⟨kv, h1, h2⟩ := c1.dct t ht; ⟨kv, k7 _ _ (pn _ (nd t ht)) h1, h2⟩, c1.inj⟩, k6 _ _ p2 s4, lr_nil, ?_, Nat.le_refl _, fun s hs => by simp at hs, h.lft, ?_, hN, Nat.zero_le _⟩
      · rw [upd_ne p3]; exact upd_same
      · exact fun z => by
          have := k2 _ _ (pn _ nL) c1.lst
          have z : L1 = S2 := z
          rw [z, n2] at this
          cases this
    · refine ⟨fun b o e n => k7 b o (fun z => n (.inl z)) (e1 _ _ e), fun b f => ?_, fun b xs e => k7 b _ (fun z => by rw [z, h.obj] at e; cases e) (e1 _ _ e)⟩
      rcases f with rfl | rfl | rfl | rfl | ⟨t, ht, rfl⟩
      · exact .inl (.inl rfl)
      · exact .inr nL
      · exact .inr (free _ p2 n2)
      · exact .inr (free2 _ p3 n3)
      · exact .inr (nd t ht)
/-- .. where the fuse lasts -/
def spFlush (K : PySem.W.Frag) : Sp := fun vs H Q E => ∃ (p : Addr) (D : Dk), vs = [.ref p] ∧ DiskAt K H p D ∧ D.N + D.ss.length ≤ 100000 ∧
  (∀ (H' : Hp) (D' : Dk), DiskAt K H' p D' → D'.F = land D.F D.ss → D'.ss = [] → D'.N = D.N + D.ss.length → Stp (foot p D) (foot p D') H H' → Q .non H') ∧ OutE K E H
theorem ok_flush (T : Ev K mg) : OkM P w K mg base (L2.CX P w) 3 "Disk" "flush" ["self"] (spFlush K) := by
  obtain ⟨fd, F, b⟩ := T.dsD_flush
  obtain ⟨f1, G1, b1⟩ := ok_spend (P := P) (w := w) (base := base) T
  obtain ⟨f2, G2, b2⟩ := ok_settle (P := P) (w := w) (base := base) T
  refine ⟨fd, FunD.ok F csD_flush ?_ ?_, b⟩
  · rintro vs H Q E ⟨p, D, rfl, _⟩; rfl
  · rintro cdv A outer s H vs Q E hr ⟨p, D, rfl, h, hN, q, qE⟩
    refine ⟨_, pss_cons (ps_expr (pe_meth0 (pv 0) T.c_Disk T.mD_spend G1 (hr.mono (by decide)) b1 .nil (passes_call (takes_of rfl rfl rfl rfl) fun _ _ _ _ h => h)))
      (pss_one (ps_expr (pe_meth (pv 0) T.c_Disk T.mD_settle G2 hr b2 .nil pass0 (pa_cons (pe_fld (pv 0) rfl) pa_nil)))), ?_⟩
    refine ⟨_, rfl, p, _, _, rfl, h.obj, rfl, p, D, rfl, h, ?_, qE⟩
    intro H1 v h1 s1
    refine ⟨_, rfl, p, _, _, rfl, h1.obj, rfl, _, rfl, p, _, _, _, _, rfl, h1.obj, T.c_Disk, T.nD_strokes, rfl, p, _, D.S, D.us, D.ss, rfl, h1, .of h1.stk, h1.rel, h.low, hN, ?_⟩
    intro H2 D2 h2 e1 e2 e3 e4 s2
    exact q H2 D2 h2 e1 e2 e4 (s1.trans s2)
end
end PB

namespace PB
open PySem PySem.Spec PyProof.Rows L2
theorem stks_take {t : Nat} {a : Int} {ns : List Int} {i : Nat} {v : Int} (e : ns[i]? = some v) : stks t a (ns.take (i + 1)) = stks t a (ns.take i) ++ [(t, a + (i : Int), v)] := by
  rw [take_snoc e, stks_snoc, List.length_take, Nat.min_eq_left (Nat.le_of_lt (List.getElem?_eq_some_iff.mp e).1)]
theorem stks_sub {t : Nat} {s : Stk} : ∀ (ns : List Int) (a : Int) (i : Nat), s ∈ stks t a (ns.take i) → s ∈ stks t a ns
  | [], a, i, h => by
    rw [List.take_nil] at h
    exact h
  | n :: ns, a, 0, h => by cases h
  | n :: ns, a, i + 1, h => by
    rcases List.mem_cons.mp (show s ∈ (t, a, n) :: stks t (a + 1) (ns.take i) from h) with e | e
    · exact
          List.mem_cons.mpr (.inl e)
    · exact List.mem_cons.mpr (.inr (stks_sub ns (a + 1) i e))
section
variable
    {P : Program} {w : World} {K : PySem.W.Frag} {mg : Str → Option Value} {base : Heap}
def spWr (K : PySem.W.Frag) : Sp := fun vs H Q E => ∃ (p : Addr) (D : Dk) (t : Nat) (a : Int) (vt : Addr) (ns : List Int), vs = [.ref p, .int t, .int a, .ref vt] ∧ DiskAt K H p D ∧ t < 3 ∧ 0 ≤ a ∧ a ≤ 1000000 ∧ SqT K H vt (ns.map V.int) ∧ (∀ n ∈ ns, 0 ≤ n ∧ n ≤ 9223372036854775807) ∧
  D.ss.length + ns.length ≤ 1000 ∧
  (∀ (H' : Hp) (D' : Dk), DiskAt K H' p D' → D'.F = D.F → D'.ss = D.ss ++ stks t a ns → D'.N = D.N → Stp (foot p D) (foot p D') H H' → Q .non H') ∧
  ∀ (H' : Hp) (D' : Dk) (pre : List Stk), DiskAt K H' p D' → D'.F = D.F → D'.ss = D.ss ++ pre → (∀ s ∈ pre, s ∈ stks t a ns) → pre.length ≤ ns.length → D'.N = D.N → Stp (foot p D) (foot p D') H H' → OutE K E H'
theorem ok_write (T : Ev K mg) : OkM P w K mg base (L2.CX P w) 5 "Disk" "write" ["self", "track", "at", "values"] (spWr K) := by
  obtain ⟨fd, F, b⟩ := T.dsD_write
  obtain ⟨f1, G1, b1⟩ := ok_spend (P := P) (w := w) (base := base) T
  obtain ⟨f2, G2, b2, k2⟩ := ok_need_track (P := P) (w := w) (base := base) T
  obtain ⟨f3, G3, b3, k3⟩ := ok_need_cell (P := P) (w := w) (base := base) T
  obtain ⟨f4, G4, b4, k4⟩ := ok_are_values (P := P) (w := w) (base := base) T
  obtain ⟨f5, G5, b5, k5⟩ := ok_most_from (P := P) (w := w) (base := base) T
  refine ⟨fd, FunD.ok F csD_write ?_ ?_, b⟩
  · rintro vs H Q E ⟨p, D, t, a, vt, ns, rfl, _⟩; rfl
  · rintro cdv A outer s H vs Q E hr ⟨p, D, t, a, vt, ns, rfl, h, ht, ha, ha2, hv, hb, hz, q, qE⟩
    refine ⟨_, pss_cons (ps_expr (pe_call G2 hr rfl T.g_need_track k2 b2 .nil pass0 (pa_cons (pv 1) pa_nil)))
      (pss_cons (ps_expr (pe_call G3 hr rfl T.g_need_cell k3 b3 .nil pass0 (pa_cons (pv 2) pa_nil)))
      (pss_cons (ps_if (pt_not (pt_val (pe_call G4 (hr.mono (by decide)) rfl T.g_are_values k4 b4 .nil pass0 (pa_cons (pv 3) (pa_cons (pe_call G5 (hr.mono (by decide)) rfl T.g_most_from k5 b5 .nil pass0 (pa_cons (pv 2) pa_nil)) pa_nil))))) (pss_one ps_never) pss_nil)
      (pss_one (ps_for (passes_of rfl) rfl (pi_enum (by rfl) T.f_enumerate (pa_cons (pe_callTy call_list_of (by rfl) T.f_list (by decide +kernel) (pa_cons (pv 3) pa_nil)) pa_nil))
        (pg_tup rfl (pgs_cons (pg_name (i := 4) csD_write.nd rfl (Or.inl rfl)) (pgs_cons (pg_name (i := 5) csD_write.nd rfl (Or.inl rfl)) pgs_nil)))
        (pss_cons (ps_expr (pe_meth0 (pv 0) T.c_Disk T.mD_spend G1 (hr.mono (by decide)) b1 .nil (passes_call (takes_of rfl rfl rfl rfl) fun _ _ _ _ h => h)))
        (pss_cons (ps_expr (pe_bm PySem.F.plainAttrs_list PySem.F.slot_list_append PySem.F.type_list_append mt_append (pe_fld (pv 0) rfl) (pa_cons (pe_tup (pa_cons (pe_tup (pa_cons (pv 1) (pa_cons (pe_op op_add (pv 2) (pv 4)) pa_nil))) (pa_cons (pv 5) pa_nil))) pa_nil)))
        (pss_one (ps_dput (hu_of hr) (pe_fld (pv 0) rfl) (pe_tup (pa_cons (pv 1) (pa_cons (pe_op op_add (pv 2) (pv 4)) pa_nil))) (pv 5) rfl)))))))), ?_⟩
    refine ⟨_, rfl, t, rfl, by omega, by omega, ?_⟩
    refine ⟨_, rfl, a, rfl, ha, by omega, ?_⟩
    refine ⟨_, rfl, _, rfl, a, rfl, ha2, vt, ns, 4096, rfl, hv, by omega, by have := (by decide : 1000 < sizeLine); omega, hb, fun H1 h1 => ⟨true, rfl, iteF ?_⟩⟩
    refine ⟨_, rfl, vt, _, rfl, .inr (s_tup h1 hv), fun l nl => ?_⟩
    have nl : H1 l = none := nl
    have hl2 := SameN (o := .lst (ns.map V.int)) nl
    refine ⟨l, _, rfl, .of upd_same, ?_⟩
    have nlH : H l = none := h1.free nl
    refine for_it (walk_enum (K := K) (a := l) (xs := ns.map V.int)) (fun i σ H' => (∃ x4 x5, σ = [some (.ref p), some (.int t), some (.int a), some (.ref vt), x4, x5]) ∧ i ≤ ns.length ∧ ∃ D', DiskAt K H' p D' ∧ D'.F = D.F ∧ D'.ss = D.ss ++ stks t a (ns.take i) ∧ D'.N = D.N ∧
      Stp (foot p D) (foot p D') H H' ∧ H' l = some (.lst (ns.map V.int)) ∧ ¬ foot p D' l) ?_ ?_ ?_ ?_
    · exact ⟨⟨_, _, rfl⟩, Nat.zero_le _, D, (h.same h1).same hl2, rfl, (List.append_nil _).symm, rfl, stp_same (h1.trans hl2), upd_same, fun f => by
        obtain ⟨o, e, _⟩ := h.has f
        rw [nlH] at e
        cases e⟩
    · rintro i σ H' _ ⟨_, _, D', _, _, _, _, _, e, _⟩
      exact .of e
    · rintro i x σ H2 H3 hi ⟨⟨x4, x5, rfl⟩, _, D', hD, e1, e2, e3, st, hl, nf⟩ ⟨T2, n, vv, rfl, nT, rfl, en, ev⟩
      cases en
      have ev : (ns.map V.int)[i]? = some vv := ev
      rw [List.getElem?_map] at ev
      obtain ⟨v, hv1, rfl⟩ := Option.map_eq_some_iff.mp ev
      have hi : i < ns.length := (List.getElem?_eq_some_iff.mp hv1).1
      have s1 : Same H2 (upd H2 T2 (.tup [.int (i : Int), .int v])) := SameN nT
      have hD1 := hD.same s1
      refine ⟨T2, _, rfl, .of upd_same, rfl, _, _, rfl, _, _, rfl, rfl, ?_⟩
      refine ⟨_, rfl, p, _, _, rfl, hD1.obj, rfl, p, D', rfl, hD1, ?_, ?_⟩
      rotate_left
      · exact qE _ D' (stks t a (ns.take i)) hD1 e1 e2 (fun s hs => stks_sub _ _ _ hs) (by rw [stks_length, List.length_take]; omega) e3 (st.trans (stp_same s1))
      intro H4 lf hD4 st4
      have hl4 := st4.keep _ _ (s1 _ _ hl) nf
      refine ⟨_, rfl, p, _, _, _, _, rfl, hD4.obj, T.c_Disk, T.nD_strokes, rfl, .inl ⟨rfl, _, .of hD4.stk⟩, ?_⟩
      refine ⟨_, rfl, _, rfl, _, rfl, a, (i : Int), rfl, rfl, by show 2 ≤ sizeLine; decide, fun bb nb => ⟨_, rfl, by show 2 ≤ sizeLine; decide, fun aa na => ?_⟩⟩
      have nb : H4 bb = none := nb
      have s5 := SameN (o := .tup [.int (t : Int), .int (a + (i : Int))]) nb
      have na : upd H4 bb (.tup [.int (t : Int), .int (a + (i : Int))]) aa = none := na
      have s6 := SameN (o := .tup [.ref bb, .int v]) na
      have hD6 := (hD4.same s5).same s6
      have hb6 := s6 _ _ (upd_same (H := H4) (a := bb) (o := .tup [.int (t : Int), .int (a + (i : Int))]))
      have hlen : D'.ss.length < 1000 := by
        rw [e2, List.length_append, stks_length, List.length_take]
        omega
      have hus : D'.us.length < sizeLine := by
        rw [hD.rel.1]
        exact Nat.lt_trans hlen (by decide)
      refine ⟨D'.S, _, _, rfl, rfl, hD6.stk, hus, ?_⟩
      generalize hH6 : upd (upd H4 bb (.tup [.int (t : Int), .int (a + (i : Int))])) aa (.tup [.ref bb, .int v]) = H6 at hD6 hb6 s6 ⊢
      have ha6 : H6 aa = some (.tup [.ref bb, .int v]) := by rw [← hH6]; exact upd_same
      have o7 : upd H6 D'.S (.lst (D'.us ++ [.ref aa])) p = some (.ins (He.ga K "Disk") D'.dx (fsD D'.L D'.S D'.Fr lf)) := (upd_ne hD6.pS).trans hD6.obj
      refine ⟨_, rfl, _, rfl, p, _, _, _, _, rfl, o7, T.c_Disk, T.nD_fresh, rfl, ?_⟩
      refine ⟨_, rfl, _, rfl, _, rfl, a, (i : Int), rfl, rfl, by show 2 ≤ sizeLine; decide, fun kk nk => ?_⟩
      have nk : upd H6 D'.S (.lst (D'.us ++ [.ref aa])) kk = none := nk
      have kS : kk ≠ D'.S := fun z => by rw [z, upd_same] at nk; cases nk
      have nk6 : H6 kk = none := by rw [upd_ne kS] at nk; exact nk
      have s8 := SameN (o := .tup [.int (t : Int), .int (a + (i : Int))]) nk6
      have comm : upd (upd H6 D'.S (.lst (D'.us ++ [.ref aa]))) kk (.tup [.int (t : Int), .int (a + (i : Int))]) = upd (upd H6 kk (.tup [.int (t : Int), .int (a + (i : Int))])) D'.S (.lst (D'.us ++ [.ref aa])) := by
        funext x
        unfold upd
        by_cases c1 : x = kk
        · rw [if_pos c1, if_neg (by rw [c1]; exact kS), if_pos c1]
        · rw [if_neg c1, if_neg c1]
      have hD8 := hD6.same s8
      have hx := hD8.stroke (s8 _ _ ha6) (s8 _ _ hb6) ht hlen [.inl (t : Int), .inl (a + (i : Int))]
      have hfr : D'.fr.length < sizeLine := Nat.lt_of_le_of_lt hD.frl (Nat.lt_trans hlen (by decide))
      refine ⟨D'.Fr, upd (upd (upd H6 kk (.tup [.int (t : Int), .int (a + (i : Int))])) D'.S (.lst (D'.us ++ [.ref aa]))) D'.Fr (.dT (putK D'.fr [.inl (t : Int), .inl (a + (i : Int))] (.int v))), rfl, ?_, ?_⟩
      · rw [← comm]
        refine DPut.t ?_ upd_same hfr
        rw [comm, upd_ne hD.SF.symm]
        exact hD8.frs
      · have nfS : l ≠ D'.S := fun z => nf (.inr (.inr (.inl z)))
        have nfF : l ≠ D'.Fr := fun z => nf (.inr (.inr (.inr (.inl z))))
        refine ⟨⟨_, _, rfl⟩, hi, _, hx, e1, ?_, e3, ?_, ?_, nf⟩
        · show D'.ss ++ [(t, a + (i : Int), v)] = _
          rw [e2, stks_take hv1, List.append_assoc]
        · have s7 : Stp (foot p D') (foot p D') H2 (upd H6 kk (.tup [.int (t : Int), .int (a + (i : Int))])) := (stp_same s1).trans (st4.trans (stp_same (s5.trans (s6.trans s8))))
          have e7 : (upd H6 kk (.tup [.int (t : Int), .int (a + (i : Int))])) D'.S = some (.lst D'.us) := hD8.stk
          have e8 : (upd (upd H6 kk (.tup [.int (t : Int), .int (a + (i : Int))])) D'.S (.lst (D'.us ++ [.ref aa]))) D'.Fr = some (.dT D'.fr) := (upd_ne hD.SF.symm).trans hD8.frs
          exact st.trans (s7.trans ((stp_upd (.inr (.inr (.inl rfl))) e7 fun _ z => nomatch z).trans (stp_upd (.inr (.inr (.inr (.inl rfl)))) e8 fun _ z => nomatch z)))
        · rw [upd_ne nfF, upd_ne nfS]
          exact s8 _ _ (s6 _ _ (s5 _ _ hl4))
    · rintro σ H2 ⟨_, _, D', hD, e1, e2, e3, st, _⟩
      rw [List.length_map, List.take_length] at e2
      exact q H2 D' hD e1 e2 e3 st
def spRead (K : PySem.W.Frag) : Sp := fun vs H Q _ => ∃ (p : Addr) (D : Dk) (t : Nat), vs = [.ref p, .int t, .int 0, .int 1] ∧ DiskAt K H p D ∧ t < 3 ∧ D.ss = [] ∧ ∀ H' tp, Same H H' → H' tp = some (.tup [.int (D.F t 0)]) → Q (.ref tp) H'
theorem cells_at {e : Nat → Addr} {t : Nat} (h : t < 3) : atI [V.ref (e 0), V.ref (e 1), V.ref (e 2)] (t : Int) = some (.ref (e t)) := by
  refine atI_nat ?_
  match t, h with
  | 0, _ => rfl
  | 1, _ => rfl
  | 2, _ => rfl
theorem ok_read (T : Ev K mg) : OkM P w K mg base CX0 5 "Disk" "read" ["self", "track", "at", "many"] (spRead K) := by
  obtain ⟨fd, F, b⟩ := T.dsD_read
  obtain ⟨f2, G2, b2, k2⟩ := ok_need_track (P := P) (w := w) (base := base) T
  obtain ⟨f3, G3, b3, k3⟩ := ok_need_cell (P := P) (w := w) (base := base) T
  obtain ⟨f4, G4, b4, k4⟩ := ok_need_number (P := P) (w := w) (base := base) T
  obtain ⟨f5, G5, b5, k5⟩ := ok_most_from (P := P) (w := w) (base := base) T
  refine ⟨fd, FunD.ok F csD_read ?_ ?_, b⟩
  · rintro vs H Q E ⟨p, D, t, rfl, _⟩; rfl
  · rintro cdv A outer s H vs Q E hr ⟨p, D, t, rfl, h, ht, hss, q⟩
    refine ⟨_, pss_cons (ps_expr (pe_call G2 hr rfl T.g_need_track k2 b2 .nil pass0 (pa_cons (pv 1) pa_nil)))
      (pss_cons (ps_expr (pe_call G3 hr rfl T.g_need_cell k3 b3 .nil pass0 (pa_cons (pv 2) pa_nil)))
      (pss_cons (ps_expr (pe_call G4 (hr.mono (by decide)) rfl T.g_need_number k4 b4 .nil pass0 (pa_cons (pv 3) (pa_cons pe_str (pa_cons pe_int (pa_cons (pe_call G5 (hr.mono (by decide)) rfl T.g_most_from k5 b5 .nil pass0 (pa_cons (pv 2) pa_nil)) pa_nil))))))
      (pss_cons (ps_set (i := 4) csD_read.nd rfl (Or.inr rfl) (pe_ix ix_list (pe_fld (pv 0) rfl) (pv 1) (fun _ _ => rfl)))
      (pss_one (ps_ret (pe_callTy call_tuple_of (by rfl) T.f_tuple (by decide +kernel) (pa_cons
        (pe_lc (own := [("each", 5)]) (g := gName 5) (tt := tYes) (te := tDGet2 (tFld K (tVar 0) "fresh") (tTup (tCons (tVar 1) (tCons (tVar 5) tNil))) (tDGet2 (tVar 4) (tVar 5) (tC (.int 0)))) rfl csD_read.nd (pi_range2 (by rfl) T.f_range (pa_cons (pv 2) (pa_cons (pe_op op_add (pv 2) (pv 3)) pa_nil))) (blkOk_by (N := ["self", "track", "at", "many", "lying", "each"]) (sc := defScope sD_read) (by decide +kernel)) (fun _ _ _ _ _ => pg_name (i := 5) csD_read.nd rfl (Or.inl rfl)) (fun _ _ _ _ _ => pts_nil)
          (fun _ _ _ _ _ => pe_dget2 (hu_of hr) (pe_fld (pv 0) rfl) (pe_tup (pa_cons (pv 1) (pa_cons (pv 5) pa_nil))) (pe_dget2 (hu_of hr) (pv 4) (pv 5) pe_int ⟨rfl, rfl, rfl, rfl⟩) ⟨rfl, rfl, rfl, rfl⟩)) pa_nil))))))), ?_⟩
    refine ⟨_, rfl, t, rfl, by omega, by omega, ?_⟩
    refine ⟨_, rfl, 0, rfl, by decide, by decide, ?_⟩
    refine ⟨_, rfl, _, rfl, 0, rfl, by decide, 1, 0, .int 4096, _, rfl, by decide, .inr ⟨4096, rfl, by decide⟩, ?_⟩
    refine ⟨_, rfl, p, _, _, _, _, rfl, h.obj, T.c_Disk, T.nD_cells, rfl, _, rfl, D.L, _, _, _, rfl, rfl, .of h.cel.lst, cells_at ht, ?_⟩
    obtain ⟨kvs, hk, tk, lk⟩ := h.cel.dct t ht
    refine ⟨_, rfl, _, rfl, _, rfl, 0, 1, rfl, rfl, 0, 1, rfl, ⟨by decide, by decide, by decide, by decide⟩, fun Dl nD => ?_⟩
    refine lc_plain (walk_range (lo := 0) (n := 1)) [.int (D.F t 0)] rfl (by decide) nD (fun _ _ => trivial) ?_ ?_
    · rintro i x H2 H3 z hi hS hz ⟨rfl, rfl⟩ R hR
      have ei : i = 0 := by omega
      subst ei
      cases hz
      have hD := h.same hS
      refine ⟨rfl, _, rfl, p, _, _, _, _, rfl, hD.obj, T.c_Disk, T.nD_fresh, rfl, D.Fr, rfl, .inr ⟨_, .of hD.frs⟩, ?_⟩
      refine ⟨_, rfl, _, rfl, by show 2 ≤ sizeLine; decide, fun kk nk => ?_⟩
      have nk : H3 kk = none := nk
      have s1 := SameN (o := .tup [.int (t : Int), .int (0 + ((0 : Nat) : Int))]) nk
      refine ⟨_, rfl, D.d t, rfl, .inl ⟨_, .of (s1 _ _ (hS _ _ hk))⟩, _, rfl, _, DGet.k (k := Sum.inl 0) (s1 _ _ (hS _ _ hk)), ?_⟩
      refine ⟨_, DGet.t (k := [.inl (t : Int), .inl 0]) (s1 _ _ hD.frs) upd_same, ?_⟩
      have ef : D.fr = [] := by
        have := h.frl
        rw [hss] at this
        exact List.length_eq_zero_iff.mp (Nat.le_zero.mp this)
      rw [ef]
      show R ((valV kvs (.inl 0)).getD (.int 0)) _
      rw [tk.val 0]
      exact hR _ s1
    · intro H2 h2 hDl
      refine ⟨Dl, _, rfl, .inl ⟨.of hDl, fun tp np => q _ tp (h2.trans (SameN np)) upd_same⟩⟩
def spKept (K : PySem.W.Frag) : Sp := fun vs H Q _ => ∃ (p : Addr) (D : Dk) (t : Nat), vs = [.ref p, .int t] ∧ DiskAt K H p D ∧ t < 3 ∧
  ∀ (H' : Hp) (tp : Addr) (o : Obj) (ys : List V), Same H H' → H tp = none → H' tp = some (.frz o (.tup ys)) → o.dict = none → PairsOf H' ys (D.F t) → Q (.ref tp) H'
theorem ok_kept (T : Ev K mg) : OkM P w K mg base CX0 5 "Disk" "kept" ["self", "track"] (spKept K) := by
  obtain ⟨fd, F, b⟩ := T.dsD_kept
  obtain ⟨f2, G2, b2, k2⟩ := ok_need_track (P := P) (w := w) (base := base) T
  obtain ⟨f3, G3, b3, k3⟩ := ok_pairs_in (P := P) (w := w) (base := base) T
  refine ⟨fd, FunD.ok F csD_kept ?_ ?_, b⟩
  · rintro vs H Q E ⟨p, D, t, rfl, _⟩; rfl
  · rintro cdv A outer s H vs Q E hr ⟨p, D, t, rfl, h, ht, q⟩
    refine ⟨_, pss_cons (ps_expr (pe_call G2 hr rfl T.g_need_track k2 b2 .nil pass0 (pa_cons (pv 1) pa_nil)))
      (pss_one (ps_ret (pe_call G3 (hr.mono (by decide)) rfl T.g_pairs_in k3 b3 .nil pass0 (pa_cons (pe_ix ix_list (pe_fld (pv 0) rfl) (pv 1) (fun _ _ => rfl)) pa_nil)))), ?_⟩
    obtain ⟨kvs, hk, tk, lk⟩ := h.cel.dct t ht
    refine ⟨_, rfl, t, rfl, by omega, by omega, ?_⟩
    exact ⟨_, rfl, p, _, _, _, _, rfl, h.obj, T.c_Disk, T.nD_cells, rfl, _, rfl, D.L, _, _, _, rfl, rfl, .of h.cel.lst, cells_at ht, D.d t, kvs, D.F t, rfl, hk, tk, Nat.lt_of_le_of_lt (Nat.le_trans lk h.sz) (by decide), q⟩
def spWait (K : PySem.W.Frag) : Sp := fun vs H Q _ => ∃ (p : Addr) (D : Dk), vs = [.ref p] ∧ DiskAt K H p D ∧ ∀ (H' : Hp) (tp : Addr), Same H H' → H' tp = some (.tup D.us) → Q (.ref tp) H'
theorem ok_waiting (T : Ev K mg) : OkM P w K mg base CX0 1 "Disk" "waiting" ["self"] (spWait K) := by
  obtain ⟨fd, F, b⟩ := T.dsD_waiting
  refine ⟨fd, FunD.ok F csD_waiting ?_ ?_, b⟩
  · rintro vs H Q E ⟨p, D, rfl, _⟩; rfl
  · rintro cdv A outer s H vs Q E hr ⟨p, D, rfl, h, q⟩
    refine ⟨_, pss_one (ps_ret (pe_callTy call_tuple_of (by rfl) T.f_tuple (by decide +kernel) (pa_cons (pe_fld (pv 0) rfl) pa_nil))), ?_⟩
    exact ⟨_, rfl, p, _, _, _, _, rfl, h.obj, T.c_Disk, T.nD_strokes, rfl, D.S, _, rfl, .inl ⟨.of h.stk, fun tp np => q _ tp (SameN np) upd_same⟩⟩
def spFuse (K : PySem.W.Frag) : Sp := fun vs H Q _ => ∃ (p : Addr) (D : Dk) (n : Int), vs = [.ref p, .int n] ∧ DiskAt K H p D ∧ 1 ≤ n ∧ ∀ (H' : Hp) (v : V), DiskAt K H' p { D with left := v } → Stp (foot p D) (foot p { D with left := v }) H H' → Q .non H'
theorem ok_fuse (T : Ev K mg) : OkM P w K mg base CX0 4 "Disk" "fuse" ["self", "many"] (spFuse K) := by
  obtain ⟨fd, F, b⟩ := T.dsD_fuse
  obtain ⟨f4, G4, b4, k4⟩ := ok_need_number (P := P) (w := w) (base := base) T
  refine ⟨fd, FunD.ok F csD_fuse ?_ ?_, b⟩
  · rintro vs H Q E ⟨p, D, n, rfl, _⟩; rfl
  · rintro cdv A outer s H vs Q E hr ⟨p, D, n, rfl, h, hn, q⟩
    refine ⟨_, pss_cons (ps_expr (pe_call G4 hr rfl T.g_need_number k4 b4 .nil pass0 (pa_cons (pv 1) (pa_cons pe_str (pa_cons pe_int (pa_cons pe_non pa_nil))))))
      (pss_one (ps_fld (pv 0) (pv 1) rfl)), ?_⟩
    refine ⟨_, rfl, n, 1, .non, _, rfl, hn, .inl rfl, _, rfl, _, rfl, p, _, _, _, rfl, h.obj, T.c_Disk, T.nD_left, by show 4 < 1000; decide, ?_⟩
    exact q _ _ (h.left (.inr ⟨n, rfl⟩)) (h.stpLeft _)
def spNoFuse (K : PySem.W.Frag) : Sp := fun vs H Q _ => ∃ (p : Addr) (D : Dk), vs = [.ref p] ∧ DiskAt K H p D ∧ ∀ (H' : Hp) (v : V), DiskAt K H' p { D with left := v } → Stp (foot p D) (foot p { D with left := v }) H H' → Q .non H'
theorem ok_no_fuse (T : Ev K mg) : OkM P w K mg base CX0 1 "Disk" "no_fuse" ["self"] (spNoFuse K) := by
  obtain ⟨fd, F, b⟩ := T.dsD_no_fuse
  refine ⟨fd, FunD.ok F csD_no_fuse ?_ ?_, b⟩
  · rintro vs H Q E ⟨p, D, rfl, _⟩; rfl
  · rintro cdv A outer s H vs Q E hr ⟨p, D, rfl, h, q⟩
    refine ⟨_, pss_one (ps_fld (pv 0) pe_non rfl), ?_⟩
    exact ⟨_, rfl, p, _, _, _, rfl, h.obj, T.c_Disk, T.nD_left, by show 4 < 1000; decide, q _ _ (h.left (.inl rfl)) (h.stpLeft _)⟩
end
end PB

namespace PB
open PySem PySem.Spec PyProof.Rows L2
section
variable
    {P : Program} {w : World} {K : PySem.W.Frag} {mg : Str → Option Value} {base : Heap}
/-- a lot: rising numbers below n -/
structure LotOk (ns : List Int) (n : Nat) : Prop where
  b : ∀ x ∈ ns, 0 ≤ x ∧ x < (n : Int)
  up : ∀ (i : Nat) (x y : Int), ns[i]? = some x → ns[i + 1]? = some y → x < y
  len : ns.length ≤ n
def spChosen (K : PySem.W.Frag) : Sp := fun vs H Q _ => ∃ (p la : Addr) (D : Dk) (ns : List Int), vs = [.ref p, .ref la] ∧ DiskAt K H p D ∧ SqL K H la (ns.map V.int) ∧ LotOk ns D.ss.length ∧
  ∀ (H' : Hp) (l : Addr) (us : List V) (sel : List Stk), Same H H' → H l = none → H' l = some (.lst us) → LR (StkR H') us sel → (∀ s ∈ sel, s ∈ D.ss) → sel.length ≤ D.ss.length → Q (.ref l) H'
theorem ok_chosen (T : Ev K mg) : OkF P w K mg base CX0 4 "chosen" ["disk", "lands"] (spChosen K) := by
  obtain ⟨fd, F, b⟩ := T.ds_chosen
  obtain ⟨f1, G1, b1, k1⟩ := ok_is_lot (P := P) (w := w) (base := base) T
  refine ⟨fd, FunD.ok F cs_chosen ?_ ?_, b, F.kp⟩
  · rintro vs H Q E ⟨p, la, D, ns, rfl, _⟩; rfl
  · rintro cdv A outer s H vs Q E hr ⟨p, la, D, ns, rfl, h, hla, hlot, q⟩
    refine ⟨_, pss_cons (ps_if (pt_not (pt_val (pe_call G1 hr rfl T.g_is_lot k1 b1 .nil pass0 (pa_cons (pv 1) (pa_cons (pe_callB call_len_seq (by rfl) T.f_len PySem.boot_len (pa_cons (pe_fld (pv 0) rfl) pa_nil)) pa_nil))))) (pss_one ps_never) pss_nil)
      (pss_one (ps_ret (pe_lc (own := [("number", 2)]) (g := gName 2) (tt := tYes) (te := tOp (rIxL K) (tFld K (tVar 0) "strokes") (tVar 2)) rfl cs_chosen.nd (pi_list (pv 1)) (blkOk_by (N := ["disk", "lands", "number"]) (sc := defScope s_chosen) (by decide +kernel)) (fun _ _ _ _ _ => pg_name (i := 2) cs_chosen.nd rfl (Or.inl rfl)) (fun _ _ _ _ _ => pts_nil)
          (fun _ _ _ _ _ => pe_ix ix_list (pe_fld (pv 0) rfl) (pv 2) (fun _ _ => rfl))))), ?_⟩
    have hn : ns.length < sizeLine := Nat.lt_of_le_of_lt (Nat.le_trans hlot.len h.ss) (by decide)
    refine ⟨_, rfl, _, rfl, p, _, _, _, _, rfl, h.obj, T.c_Disk, T.nD_strokes, rfl, D.S, _, rfl, .inl (.of h.stk), la, ns, _, rfl, hla, hn, ?_, hlot.up, fun H1 h1 => ⟨true, rfl, iteF ?_⟩⟩
    · rw [h.rel.1]; exact hlot.b
    refine ⟨_, rfl, la, rfl, ⟨_, h1.seq hla⟩, fun l nl => ?_⟩
    refine lc_map (walk_list (K := K) (a := la) (xs := ns.map V.int)) (fun i v H' => ∃ n : Int, ns[i]? = some n ∧ D.us[n.toNat]? = some v) (fun _ _ _ _ _ h => h) (by simpa using hn) nl (fun H' h' => h'.seq (h1.seq hla)) ?_ ?_
    · rintro i x H2 H3 acc hi hS _ ⟨rfl, hx⟩ R hR
      rw [List.getElem?_map] at hx
      obtain ⟨n, hn2, rfl⟩ := Option.map_eq_some_iff.mp hx
      obtain ⟨n1, n2⟩ := hlot.b n (List.mem_of_getElem? hn2)
      have hlt : n.toNat < D.us.length := by rw [h.rel.1]; omega
      have hD := (h.same h1).same hS
      have en : (n.toNat : Int) = n := by omega
      have eat : atI D.us n = some D.us[n.toNat] := by
        have := atI_nat (List.getElem?_eq_getElem hlt)
        rw [en] at this
        exact this
      exact ⟨rfl, _, rfl, p, _, _, _, _, rfl, hD.obj, T.c_Disk, T.nD_strokes, rfl, _, rfl, D.S, D.us, n, _, rfl, rfl, .of hD.stk, eat, hR _ _ (Same.refl _) ⟨n, hn2, List.getElem?_eq_getElem hlt⟩⟩
    · intro H2 ys h2 hl hlen hys
      rw [List.length_map] at hlen
      have hD := (h.same h1).same h2
      refine q H2 l ys (ns.map fun n => D.ss.getD n.toNat (0, 0, 0)) (h1.trans h2) (h1.free nl) hl ⟨by rw [hlen, List.length_map], fun i s es => ?_⟩ (fun s hs => ?_) (by rw [List.length_map]; exact hlot.len)
      · rw [List.getElem?_map] at es
        obtain ⟨n, hn2, rfl⟩ := Option.map_eq_some_iff.mp es
        have hi : i < ys.length := by rw [hlen]; exact (List.getElem?_eq_some_iff.mp hn2).1
        obtain ⟨n', e1, e2⟩ := hys i _ (List.getElem?_eq_getElem hi)
        rw [hn2] at e1
        cases e1
        obtain ⟨st, e3, e4⟩ := lr_at hD.rel e2
        refine ⟨_, List.getElem?_eq_getElem hi, ?_⟩
        rw [List.getD_eq_getElem?_getD, e3]
        exact e4
      · obtain ⟨n, hn2, rfl⟩ := List.mem_map.mp hs
        obtain ⟨n1, n2⟩ := hlot.b n hn2
        have hlt : n.toNat < D.ss.length := by omega
        rw [List.getD_eq_getElem?_getD, List.getElem?_eq_getElem hlt]
        exact List.getElem_mem hlt
def spCut (K : PySem.W.Frag) : Sp := fun vs H Q _ => ∃ (p la : Addr) (D : Dk) (ns : List Int), vs = [.ref p, .ref la] ∧ DiskAt K H p D ∧ SqL K H la (ns.map V.int) ∧ LotOk ns D.ss.length ∧ D.N + D.ss.length ≤ 100000 ∧
  ∀ (H' : Hp) (D' : Dk), DiskAt K H' p D' → May D.F D.ss D'.F → D'.ss = [] → D'.N ≤ D.N + D.ss.length → Stp (foot p D) (foot p D') H H' → Q .non H'
theorem ok_cut (T : Ev K mg) : OkM P w K mg base CX0 5 "Disk" "cut" ["self", "lands"] (spCut K) := by
  obtain ⟨fd, F, b⟩ := T.dsD_cut
  obtain ⟨f1, G1, b1, k1⟩ := ok_chosen (P := P) (w := w) (base := base) T
  obtain ⟨f2, G2, b2⟩ := ok_settle (P := P) (w := w) (base := base) T
  refine ⟨fd, FunD.ok F csD_cut ?_ ?_, b⟩
  · rintro vs H Q E ⟨p, la, D, ns, rfl, _⟩; rfl
  · rintro cdv A outer s H vs Q E hr ⟨p, la, D, ns, rfl, h, hla, hlot, hN, q⟩
    refine ⟨_, pss_cons (ps_expr (pe_meth (pv 0) T.c_Disk T.mD_settle G2 (hr.mono (by decide)) b2 .nil pass0 (pa_cons (pe_call G1 hr rfl T.g_chosen k1 b1 .nil pass0 (pa_cons (pv 0) (pa_cons (pv 1) pa_nil))) pa_nil)))
      (pss_one (ps_fld (pv 0) pe_non rfl)), ?_⟩
    refine ⟨_, rfl, p, _, _, rfl, h.obj, rfl, _, rfl, _, rfl, p, la, D, ns, rfl, h, hla, hlot, ?_⟩
    intro H1 l us sel h1 nl hl hrel hsub hlen
    refine ⟨p, D, l, us, sel, rfl, h.same h1, .of hl, hrel, fun s hs => h.low s (hsub s hs), by omega, ?_⟩
    intro H2 D2 h2 e1 e2 e3 e4 st
    refine ⟨_, rfl, p, _, _, _, rfl, h2.obj, T.c_Disk, T.nD_left, by show 4 < 1000; decide, ?_⟩
    refine q _ _ (h2.left (.inl rfl)) ?_ e2 (by show D2.N ≤ _; omega) ((stp_same h1).trans (st.trans (h2.stpLeft _)))
    show May D.F D.ss D2.F
    rw [e1]
    exact land_may sel D.F D.ss hsub
def spNeedD (K : PySem.W.Frag) : Sp := fun vs H Q _ => ∃ (p : Addr) (D : Dk) (v : V), vs = [.ref p, v] ∧ DiskAt K H p D ∧ Q .non H
theorem ok_need_disk (T : Ev K mg) : ∃ fd, FnOk P w K mg base CX0 1 (He.ga K "need_disk") fd ["value", "part"] (spNeedD K) ∧ (∃ ds, Vals [V.str "disk"] ds ∧ Binds K fd ["value", "part"] ds) ∧ PySem.W.keepIn K (.ref (He.ga K "need_disk")) = true := by
  obtain ⟨fd, F, b⟩ := T.ds_need_disk
  have iD : C8.InsC K (He.ga K "Disk") := insB_ok T.c_Disk (He.ba (He.ba (He.ba T.s.2).2).2).2
  refine ⟨fd, FunD.ok F cs_need_disk ?_ ?_, b, F.kp⟩
  · rintro vs H Q E ⟨p, D, v, rfl, _⟩; rfl
  · rintro cdv A outer s H vs Q E hr ⟨p, D, v, rfl, h, q⟩
    refine ⟨_, pss_one (ps_if (pt_not (pt_val (pe_callB (C8.call_isC iD) (by rfl) T.f_isinstance (by decide +kernel) (pa_cons (pv 0) (pa_cons (pe_glob (v := .ref (He.ga K "Disk")) rfl T.g_Disk rfl) pa_nil))))) (pss_one ps_never) pss_nil), ?_⟩
    exact ⟨_, rfl, p, _, _, rfl, h.obj, true, rfl, iteF q⟩
def spDInit (K : PySem.W.Frag) : Sp := fun vs H Q _ => ∃ (x dx : Addr), vs = [.ref x] ∧ H x = some (.ins (He.ga K "Disk") dx []) ∧
  ∀ (H' : Hp) (D : Dk), DiskAt K H' x D → D.F = (fun _ _ => 0) → D.ss = [] → D.N = 0 → Stp (· = x) (foot x D) H H' → Q .non H'
theorem ok_dinit (T : Ev K mg) : OkM P w K mg base CX0 1 "Disk" "__init__" ["self"] (spDInit K) := by
  obtain ⟨fd, F, b⟩ := T.dsD_init
  obtain ⟨tt0, hT⟩ := T.i_TRACKS
  refine ⟨fd, FunD.ok F csD_init ?_ ?_, b⟩
  · rintro vs H Q E ⟨x, dx, rfl, _⟩; rfl
  · rintro cdv A outer s H vs Q E hr ⟨p, dx, rfl, h, q⟩
    refine ⟨_, pss_cons (ps_fld (pv 0) (pe_lc (own := [("_", 1)]) (g := gName 1) (tt := tYes) rfl csD_init.nd (pi_range1 (by rfl) T.f_range (pa_cons (pe_glob (v := .int 3) rfl hT ⟨_, rfl⟩) pa_nil)) (blkOk_by (N := ["self", "_"]) (sc := defScope sD_init) (by decide +kernel)) (fun _ _ _ _ _ => pg_name (i := 1) csD_init.nd rfl (Or.inl rfl)) (fun _ _ _ _ _ => pts_nil)
          (fun _ _ _ _ _ => pe_dnewK)) rfl)
      (pss_cons (ps_fld (pv 0) (pe_lst pa_nil) rfl) (pss_cons (ps_fld (pv 0) pe_dnewT rfl) (pss_one (ps_fld (pv 0) pe_non rfl)))), ?_⟩
    refine ⟨3, rfl, by decide, by decide, fun L nL => ?_⟩
    refine lc_range (lo := 0) (n := 3) (fun i H' => Same H H' ∧ ∃ e : Nat → Addr, H' L = some (.lst ((List.range i).map fun t => V.ref (e t))) ∧
      (∀ t, t < i → H (e t) = none ∧ e t ≠ L ∧ H' (e t) = some (.dK [])) ∧ ∀ t t', t < i → t' < i → e t = e t' → t = t') ?_ ?_ ?_
    · exact ⟨SameN nL, fun _ => L, upd_same, fun t h => absurd h (by omega), fun t t' h => absurd h (by omega)⟩
    · rintro i H' hi3 ⟨h1, e, hD, he, hi⟩
      simp only [tYes, ↓reduceIte]
      refine ⟨rfl, fun d np => ?_⟩
      have np' : H' d = none := np
      have pD : d ≠ L := fun z => by rw [z, hD] at np'; cases np'
      refine ⟨_, (upd_ne (fun z => pD z.symm)).trans hD, by rw [List.length_map, List.length_range]; exact Nat.lt_of_lt_of_le hi3 (by decide), (s_put (h1.trans (SameN np')) nL), fun t => if t = i then d else e t, ?_, fun t ht => ?_, fun t t' ht ht' z => ?_⟩
      · rw [upd_same, List.range_succ, List.map_append]
        have e1 : (List.range i).map (fun t => V.ref (if t = i then d else e t)) = (List.range i).map fun t => V.ref (e t) := by
          refine List.map_congr_left fun t ht => ?_
          rw [if_neg (by have := List.mem_range.mp ht; omega)]
        show some (HO.lst (_ ++ [V.ref d])) = some (HO.lst ((List.range i).map (fun t => V.ref (if t = i then d else e t)) ++ [V.ref (if i = i then d else e i)]))
        rw [e1, if_pos rfl]
      · by_cases c : t = i
        · simp only [if_pos c]
          exact ⟨h1.free np', pD, by rw [upd_ne pD, upd_same]⟩
        · simp only [if_neg c]
          obtain ⟨h2, h3, h4⟩ := he t (by omega)
          refine ⟨h2, h3, ?_⟩
          rw [upd_ne h3, upd_ne (fun z => by rw [z, np'] at h4; cases h4)]
          exact h4
      · have sep : ∀ t, t < i → e t ≠ d := fun t ht z => by
          obtain ⟨h1, h2, h3⟩ := he t ht
          rw [z, np'] at h3
          cases h3
        by_cases c : t = i <;> by_cases c' : t' = i
        · omega
        · simp only [if_pos c, if_neg c'] at z
          exact absurd z.symm (sep t' (by omega))
        · simp only [if_neg c, if_pos c'] at z
          exact absurd z (sep t (by omega))
        · simp only [if_neg c, if_neg c'] at z
          exact hi t t' (by omega) (by omega) z
    · rintro H1 ⟨e1, d, hL, hd, hi⟩
      have o1 := e1 _ _ h
      refine ⟨_, rfl, p, _, _, _, rfl, o1, T.c_Disk, T.nD_cells, by show 0 < 1000; decide, ?_⟩
      refine ⟨Nat.zero_le _, fun S2 n2 => ?_⟩
      generalize ha0 : upd H1 p (.ins (He.ga K "Disk") dx (putF "cells" (.ref L) [])) = a0 at n2 ⊢
      have o2 : a0 p = some (.ins (He.ga K "Disk") dx [("cells", .ref L)]) := by rw [← ha0]; exact upd_same
      have k2 : ∀ b o, b ≠ p → H1 b = some o → a0 b = some o := fun b o n e => by rw [← ha0, upd_ne n]; exact e
      have o3 : upd a0 S2 (.lst []) p = some (.ins (He.ga K "Disk") dx [("cells", .ref L)]) := (upd_ne (nne o2 n2)).trans o2
      refine ⟨_, rfl, p, _, _, _, rfl, o3, T.c_Disk, T.nD_strokes, by show 1 < 1000; decide, ?_⟩
      refine fun F2 n3 => ?_
      generalize ha2 : upd (upd a0 S2 (.lst [])) p (.ins (He.ga K "Disk") dx (putF "strokes" (.ref S2) [("cells", .ref L)])) = a2 at n3 ⊢
      have o4 : a2 p = some (.ins (He.ga K "Disk") dx [("cells", .ref L), ("strokes", .ref S2)]) := by rw [← ha2]; exact upd_same
      have p2 : S2 ≠ p := (nne o2 n2).symm
      have k4 : ∀ b o, b ≠ p → H1 b = some o → a2 b = some o := fun b o n e => by
        have := k2 b o n e
        rw [← ha2, upd_ne n, upd_ne (nne this n2)]
        exact this
      have s4 : a2 S2 = some (.lst []) := by rw [← ha2, upd_ne p2]; exact upd_same
      have o5 : upd a2 F2 (.dT []) p = some (.ins (He.ga K "Disk") dx [("cells", .ref L), ("strokes", .ref S2)]) := (upd_ne (nne o4 n3)).trans o4
      refine ⟨_, rfl, p, _, _, _, rfl, o5, T.c_Disk, T.nD_fresh, by show 2 < 1000; decide, ?_⟩
      refine ⟨_, rfl, p, _, _, _, rfl, upd_same, T.c_Disk, T.nD_left, by show 3 < 1000; decide, ?_⟩
      rw [upd_upd]
      show Q .non (upd (upd a2 F2 (.dT [])) p (.ins (He.ga K "Disk") dx (fsD L S2 F2 .non)))
      have p3 : F2 ≠ p := (nne o4 n3).symm
      have k6 : ∀ b o, b ≠ p → a2 b = some o → upd (upd a2 F2 (.dT [])) p (.ins (He.ga K "Disk") dx (fsD L S2 F2 .non)) b = some o := fun b o n e => by
        rw [upd_ne n, upd_ne (nne e n3)]
        exact e
      have k7 : ∀ b o, b ≠ p → H1 b = some o → upd (upd a2 F2 (.dT [])) p (.ins (He.ga K "Disk") dx (fsD L S2 F2 .non)) b = some o := fun b o n e => k6 b o n (k4 b o n e)
      have pn : ∀ b, H b = none → b ≠ p := fun b e z => by rw [z, h] at e; cases e
      have free : ∀ b, b ≠ p → a0 b = none → H b = none := fun b n e => by
        cases q2 : H b with
        | none => rfl
        | some o => rw [k2 b o n (e1 _ _ q2)] at e; cases e
      have free2 : ∀ b, b ≠ p → a2 b = none → H b = none := fun b n e => by
        cases q2 : H b with
        | none => rfl
        | some o => rw [k4 b o n (e1 _ _ q2)] at e; cases e
      refine q _ ⟨dx, L, S2, F2, d, fun _ _ => 0, [], [], [], .non, 0⟩ ?_ rfl rfl rfl ?_
      · refine ⟨upd_same, ⟨k7 _ _ (pn _ nL) hL, fun t ht => let ⟨h1, h2, h3⟩ := hd t ht; ⟨[], k7 _ _ (pn _ h1) h3, trep_nil, Nat.le_refl _⟩, hi⟩, k6 _ _ p2 s4, lr_nil, ?_, Nat.le_refl _, fun s hs => by simp at hs, .inl rfl, ?_, Nat.zero_le _, Nat.zero_le _⟩
        · rw [upd_ne p3]; exact upd_same
        · exact fun z => by
            have := k2 _ _ (pn _ nL) hL
            have z : L = S2 := z
            rw [z, n2] at this
            cases this
      · refine ⟨fun b o e n => k7 b o n (e1 _ _ e), fun b f => ?_, fun b xs e => k7 b _ (fun z => by rw [z, h] at e; cases e) (e1 _ _ e)⟩
        rcases f with rfl | rfl | rfl | rfl | ⟨t, ht, rfl⟩
        · exact .inl rfl
        · exact .inr nL
        · exact .inr (free _ p2 n2)
        · exact .inr (free2 _ p3 n3)
        · exact .inr (hd t ht).1
end
end PB

/-! records in the heap; track_of, row_of, record_in, rows_in -/
namespace PB
open PySem PySem.Spec PyProof.Rows L2
def wds : List Str := ["put", "drop", "copied", "view", "letgo", "start", "region", "thing", "named", "seen", "viewed", "whole"]
def wd (i : Nat) : Str := wds.getD i ""
def Rc.vals (r : Rc) : List V := .str (wd r.w) :: r.ns.map V.int
def Rc.dat (r : Rc) : PyData := .tuple (.str (wd r.w) :: r.ns.map PyData.int)
theorem wd_at {i : Nat} (h : i < 12) : wds[i]? = some (wd i) := by
  unfold wd
  rw [List.getD_eq_getElem?_getD, List.getElem?_eq_getElem (show i < wds.length from h)]
  rfl
theorem wd_new : ∀ j < 12, ∀ m < j, wds[m]? ≠ some (wd j) := by decide +kernel
theorem wd_inj {i j : Nat} (hi : i < 12) (hj : j < 12) (e : wd i = wd j) : i = j := by
  rcases Nat.lt_trichotomy i j with h | h | h
  · exact absurd ((wd_at hi).trans (congrArg some e)) (wd_new j hj i h)
  · exact h
  · exact absurd ((wd_at hj).trans (congrArg some e.symm)) (wd_new i hi j h)
theorem dat_eqv {r q : Rc} (hr : r.ok) (hq : q.ok) : PyData.eqv r.dat q.dat = decide (r = q) := by
  have e : PyData.eqv r.dat q.dat = ((wd r.w == wd q.w) && PyData.eqvAll (r.ns.map PyData.int) (q.ns.map PyData.int)) := by simp only [Rc.dat, PyData.eqv, PyData.eqvAll]
  rw [e, PySem.W.ked_eqvAll]
  obtain ⟨w, ns⟩ := r
  obtain ⟨w', ns'⟩ := q
  by_cases h1 : w = w'
  · subst h1
    by_cases h2 : ns = ns'
    · subst h2
      simp
    · rw [decide_eq_false h2, Bool.and_false, decide_eq_false fun z => h2 (by injection z)]
  · have q : (wd w == wd w') = false := beq_eq_false_iff_ne.mpr fun z => h1 (wd_inj hr.1 hq.1 z)
    rw [show (wd (Rc.mk w ns).w == wd (Rc.mk w' ns').w) = false from q, Bool.false_and, decide_eq_false fun z => h1 (by injection z)]
theorem wd_ok (i : Nat) : PyData.strOk (wd i) = true := by
  by_cases h : i < 12
  · exact (by decide +kernel : ∀ i < 12, PyData.strOk (wd i) = true) i h
  · unfold wd
    rw [List.getD_eq_getElem?_getD, List.getElem?_eq_none (by show 12 ≤ i; omega)]
    exact (by decide +kernel : PyData.strOk "" = true)
theorem flat_rep (k : Nat) : (List.replicate k [V.int 0]).flatten = (List.replicate k (0 : Int)).map V.int := by
  induction k with
  | zero => rfl
  | succ k ih => rw [List.replicate_succ, List.flatten_cons, ih, List.replicate_succ]; rfl
theorem at0 {x : V} {xs : List V} : atI (x :: xs) 0 = some x := atI_nat (j := 0) rfl
theorem at1 {x y : V} {xs : List V} : atI (x :: y :: xs) 1 = some y := atI_nat (j := 1) rfl
theorem dat_lay (r : Rc) : r.dat.canLay0 = true := by
  simp [Rc.dat, PyData.canLay0, PyData.canLayAll0, PySem.W.ke_canLayAll0, wd_ok]
theorem dat_depth (r : Rc) : r.dat.depth = 1 := by
  simp [Rc.dat, PyData.depth, PyData.depthAll, PySem.W.ke_depthAll]
theorem dats_lay : ∀ rs : List Rc, PyData.canLayAll0 (rs.map Rc.dat) = true
  | [] =>
      by simp [PyData.canLayAll0]
  | r :: rs => by simp [PyData.canLayAll0, dat_lay r, dats_lay rs]
theorem dats_depth : ∀ rs : List Rc, PyData.depthAll (rs.map Rc.dat) ≤ 1
  | [] =>
      by simp [PyData.depthAll]
  | r :: rs => by
    have h1 := dats_depth rs
    have h2 := dat_depth r
    simp only
        [List.map_cons, PyData.depthAll]
    omega
theorem dat_shaped (r : Rc) : SeqAt.shaped r.dat = true := by
  have h := dat_depth r
  show (r.dat.canLay0 && decide (r.dat.depth ≤ 64)) = true
  rw [Bool.and_eq_true]
  exact ⟨dat_lay r, decide_eq_true (by omega)⟩
theorem dats_shaped (rs : List Rc) : SeqAt.shaped (.list (rs.map Rc.dat)) = true := by
  have h1 := dats_depth rs
  have h2 : PyData.depth (.list (rs.map Rc.dat)) ≤ 64 := by
    simp only [PyData.depth]
    omega
  show (PyData.canLay0 (.list (rs.map Rc.dat)) && decide (PyData.depth (.list (rs.map Rc.dat)) ≤ 64)) = true
  rw [Bool.and_eq_true]
  exact ⟨by simp only [PyData.canLay0]; exact dats_lay rs, decide_eq_true h2⟩
theorem ints_shaped (ns : List Int) : SeqAt.shaped (.tuple (ns.map PyData.int)) = true := by
  simp [SeqAt.shaped, PyData.canLay0, PyData.depth, PySem.W.ke_canLayAll0, PySem.W.ke_depthAll]
theorem ints_eqv (ns ms : List Int) : PyData.eqv (.tuple (ns.map PyData.int)) (.tuple (ms.map PyData.int)) = decide (ns = ms) := by
  have e : PyData.eqv (.tuple (ns.map PyData.int)) (.tuple (ms.map PyData.int)) = PyData.eqvAll (ns.map PyData.int) (ms.map PyData.int) := by simp only [PyData.eqv]
  rw [e, PySem.W.ked_eqvAll]
theorem dp_ints {K : PySem.W.Frag} {H : Hp} : ∀ ns : List Int, DpAll K H (ns.map V.int) (ns.map PyData.int)
  | [] => .nil
  | n :: ns => .cons (.int n) (dp_ints ns)
theorem dp_rec {K : PySem.W.Frag} {H : Hp} {a : Addr} {r : Rc} (h : SqT K H a r.vals) : Dp K H (.ref a) r.dat := .tup h (.cons (.str _) (dp_ints _))
theorem dp_tup {K : PySem.W.Frag} {H : Hp} {a : Addr} {ns : List Int} (h : SqT K H a (ns.map V.int)) : Dp K H (.ref a) (.tuple (ns.map PyData.int)) := .tup h (dp_ints _)
/-- a record's tuple -/
def RecR (H : Hp) (r : Rc) (v : V) : Prop := ∃ a, v = .ref a ∧ H a = some (.tup r.vals)
theorem rec_same {H H' : Hp} (e : Same H H') : ∀ r v, RecR H r v → RecR H' r v := fun r v ⟨a, h1, h2⟩ => ⟨a, h1, e _ _ h2⟩
theorem rec_nl {H H' : Hp} (e : NL H H') : ∀ r v, RecR H r v → RecR H' r v := fun r v ⟨a, h1, h2⟩ => ⟨a, h1, e _ _ (fun _ z => nomatch z) h2⟩
theorem rec_stp {A B : Addr → Prop} {H H' : Hp} (e : Stp A B H H') : ∀ r v, RecR H r v → RecR H' r v := fun r v ⟨a, h1, h2⟩ => ⟨a, h1, e.tup _ _ h2⟩
theorem dp_recs {K : PySem.W.Frag} {H : Hp} : ∀ {vs : List V} {rs : List Rc}, LR (RecR H) vs rs → DpAll K H vs (rs.map Rc.dat)
  | [], [], _ => .nil
  | [], r :: rs, h => by cases h.1
  | v :: vs, [], h => by cases h.1
  | v :: vs, r :: rs, h => by
    obtain ⟨u, e1, a, e2, e3⟩ := h.2 0 r rfl
    cases e1
    cases e2
    exact .cons (dp_rec (.of e3)) (dp_recs ⟨by have := h.1; simpa using this, fun i x e => h.2 (i + 1) x e⟩)
section
variable
    {P : Program} {w : World} {K : PySem.W.Frag} {mg : Str → Option Value} {base : Heap}
theorem Ev.words (T : Ev K mg) : (∀ H : Hp, SqT K H (He.ga K "WORDS") (wds.map V.str)) ∧ ∃ o, K.lookup (He.ga K "WORDS") = some o ∧ o.cls = .type "tuple" ∧ o.dict = none := tupN_ok (He.ba T.s.2).1
theorem Ev.numbers (T : Ev K mg) (H : Hp) : SqT K H (He.ga K "NUMBERS") (nums.map fun n : Nat => V.int n) := (tupN_ok (He.ba (He.ba T.s.2).2).1).1 H
theorem Ev.wholeT (T : Ev K mg) (H : Hp) : SqT K H (He.ga K "WHOLE") whole.vals := (tupN_ok (He.ba (He.ba (He.ba (He.ba T.s.2).2).2).1).1).1 H
theorem Ev.tracks (T : Ev K mg) (H : Hp) : SqT K H (He.ga K "BOOK_TRACKS") [.int 1, .int 2] := (tupN_ok (He.ba (He.ba (He.ba (He.ba T.s.2).2).2).1).2).1 H
def spTrackOf : Sp := fun vs H Q _ => ∃ g : Int, vs = [.int g] ∧ Q (.int (tk g)) H
theorem ok_track_of (T : Ev K mg) : OkF P w K mg base CX0 1 "track_of" ["generation"] spTrackOf := by
  obtain ⟨fd, F, b⟩ := T.ds_track_of
  refine ⟨fd, FunD.ok F cs_track_of ?_ ?_, b, F.kp⟩
  · rintro vs H Q E ⟨g, rfl, _⟩; rfl
  · rintro cdv A outer s H vs Q E hr ⟨g, rfl, q⟩
    refine ⟨_, pss_one (ps_ret (pe_op op_add pe_int (pe_op op_mod (pv 0) pe_int))), ?_⟩
    refine ⟨_, rfl, g, 2, rfl, rfl, by show (0 : Int) < 2; decide, 1, _, rfl, rfl, ?_⟩
    rw [tk_int] at q
    exact q
def spRowOf (K : PySem.W.Frag) : Sp := fun vs H Q _ => ∃ (a : Addr) (m : Int) (r : Rc), vs = [.ref a, .int m] ∧ SqT K H a r.vals ∧ r.ok ∧ ∀ H' p, Same H H' → H' p = some (.tup ((m :: r.cells).map V.int)) → Q (.ref p) H'
theorem ok_row_of (T : Ev K mg) : OkF P w K mg base CX0 1 "row_of" ["record", "mark"] (spRowOf K) := by
  obtain ⟨fd, F, b⟩ := T.ds_row_of
  obtain ⟨t4, h4⟩ := T.i_MOST_NUMBERS
  obtain ⟨hW, oW, lW, cW, dW⟩ := T.words
  refine ⟨fd, FunD.ok F cs_row_of ?_ ?_, b, F.kp⟩
  · rintro vs H Q E ⟨a, m, r, rfl, _⟩; rfl
  · rintro cdv A outer s H vs Q E hr ⟨a, m, r, rfl, ha, hok, q⟩
    refine ⟨_, pss_cons (ps_set (i := 2) cs_row_of.nd rfl (Or.inl rfl) (pe_slice sl_tupA (pv 0) (po_some pe_int) po_none))
      (pss_one (ps_ret (pe_tup (pa_cons (pv 1) (pa_cons (pe_op op_add (pe_bm PySem.F.plainAttrs_tuple PySem.F.slot_tuple_index PySem.F.type_tuple_index mt_tup_index (pe_glob (v := .ref (He.ga K "WORDS")) rfl T.g_WORDS rfl) (pa_cons (pe_ix ix_tup (pv 0) pe_int (fun _ _ => rfl)) pa_nil)) pe_int)
        (StX.pa_star (pv 2) (StX.pa_star (pe_op op_rep (pe_lst (pa_cons pe_int pa_nil)) (pe_op op_sub (pe_glob (v := .int 4) rfl h4 ⟨_, rfl⟩) (pe_callB call_len_seq (by rfl) T.f_len PySem.boot_len (pa_cons (pv 2) pa_nil)))) pa_nil))))))), ?_⟩
    have hn := nm_le r.w
    have hl := hok.2
    refine ⟨_, rfl, 1, rfl, a, _, rfl, ha, fun z => absurd z.1 (by rw [show (1 : Int) = ((1 : Nat) : Int) from rfl, HT.sIx_nat]; unfold Rc.vals; rw [List.length_cons]; omega), fun _ p np => ?_⟩
    have np : H p = none := np
    have s1 := SameN (o := .tup (r.ns.map V.int)) np
    have ec : cutV r.vals (some 1) none = r.ns.map V.int := cut_from _ 1
    rw [ec]
    have hw : 0 ≤ (4 : Int) - r.ns.length ∧ ((4 : Int) - r.ns.length).toNat = 4 - r.ns.length := by omega
    refine ⟨_, rfl, .inr (.inl ⟨rfl, oW, lW, cW, dW⟩), _, rfl, a, r.vals, 0, .str (wd r.w), rfl, rfl, s_tup s1 ha, at0, ?_⟩
    refine ⟨_, wds, wd r.w, r.w, rfl, rfl, hW _, wd_at hok.1, wd_new _ hok.1, (r.w : Int), 1, rfl, rfl, ?_⟩
    refine ⟨_, rfl, p, _, rfl, .inl (.of upd_same), ?_⟩
    refine ⟨by show 1 ≤ sizeLine; decide, fun l nl => ?_⟩
    have nl : upd H p (.tup (r.ns.map V.int)) l = none := nl
    have s2 := SameN (o := .lst [.int 0]) nl
    refine ⟨_, rfl, p, _, rfl, .inr (.of (s2 _ _ upd_same)), _, _, rfl, rfl, l, _, _, rfl, rfl, upd_same, ?_, ?_, ?_, fun l2 nl2 => ?_⟩
    · rw [List.length_map]; omega
    · rw [List.length_map]; omega
    · rw [List.length_map, hw.2]
      have : (16 : Nat) ≤ sizeLine := by decide
      simp only [List.length_singleton]
      omega
    have ek : ((4 : Int) - ((r.ns.map V.int).length : Nat)).toNat = 4 - r.ns.length := by rw [List.length_map, hw.2]
    have s3 := SameN (o := .lst (List.replicate ((4 : Int) - ((r.ns.map V.int).length : Nat)).toNat [V.int 0]).flatten) nl2
    refine ⟨l2, _, rfl, .inr (.of upd_same), ?_, fun p2 np2 => ?_⟩
    · rw [flat_rep, ek]
      simp only [List.length_append, List.length_map, List.length_cons, List.length_nil, List.length_replicate]
      have : (16 : Nat) ≤ sizeLine := by decide
      omega
    · refine q _ p2 (s1.trans (s2.trans (s3.trans (SameN np2)))) (upd_same.trans ?_)
      rw [flat_rep, ek]
      congr 2
      simp [Rc.cells]
def spRecordIn (K : PySem.W.Frag) : Sp := fun vs H Q _ => ∃ (a : Addr) (m : Int) (l : List Int), vs = [.ref a] ∧ SqT K H a ((m :: l).map V.int) ∧ l.length = 5 ∧
  (recAt l = none → ∀ H', Same H H' → Q .non H') ∧ ∀ r, recAt l = some r → ∀ H' p, Same H H' → H' p = some (.tup r.vals) → Q (.ref p) H'
theorem ok_record_in (T : Ev K mg) : OkF P w K mg base CX0 2 "record_in" ["row"] (spRecordIn K) := by
  obtain ⟨fd, F, b⟩ := T.ds_record_in
  obtain ⟨f1, G1, b1, k1⟩ := ok_row_of (P := P) (w := w) (base := base) T
  obtain ⟨hW, oW, lW, cW, dW⟩ := T.words
  refine ⟨fd, FunD.ok F cs_record_in ?_ ?_, b, F.kp⟩
  · rintro vs H Q E ⟨a, m, l, rfl, _⟩; rfl
  · rintro cdv A outer s H vs Q E hr ⟨a, m, l, rfl, ha, hl, q1, q2⟩
    refine ⟨_, pss_cons (ps_if (pt_not (pt_chain op_le op_le pe_int (pe_ix ix_tup (pv 0) pe_int (fun _ _ => rfl)) (pe_callB call_len_seq (by rfl) T.f_len PySem.boot_len (pa_cons (pe_glob (v := .ref (He.ga K "WORDS")) rfl T.g_WORDS rfl) pa_nil)))) (pss_one (ps_ret pe_non)) pss_nil)
      (pss_cons (ps_set (i := 1) cs_record_in.nd rfl (Or.inl rfl) (pe_tup (pa_cons (pe_ix ix_tup (pe_glob (v := .ref (He.ga K "WORDS")) rfl T.g_WORDS rfl) (pe_op op_sub (pe_ix ix_tup (pv 0) pe_int (fun _ _ => rfl)) pe_int) (fun _ _ => rfl))
        (StX.pa_star (pe_slice sl_tupA (pv 0) (po_some pe_int) (po_some (pe_op op_add pe_int (pe_ix ix_tup (pe_glob (v := .ref (He.ga K "NUMBERS")) rfl T.g_NUMBERS rfl) (pe_op op_sub (pe_ix ix_tup (pv 0) pe_int (fun _ _ => rfl)) pe_int) (fun _ _ => rfl))))) pa_nil))))
      (pss_one (ps_ret (pe_ifExp (pt_cmpR (op_eqD hr.units) (pe_call G1 hr rfl T.g_row_of k1 b1 .nil pass0 (pa_cons (pv 1) (pa_cons (pe_ix ix_tup (pv 0) pe_int (fun _ _ => rfl)) pa_nil))) (pv 0) (nomark _)) (pv 1) pe_non)))), ?_⟩
    match l, hl with
    | [c0, c1, c2, c3, c4], _ =>
    have i1 : atI ((m :: [c0, c1, c2, c3, c4]).map V.int) 1 = some (.int c0) := at1
    have i0 : atI ((m :: [c0, c1, c2, c3, c4]).map V.int) 0 = some (.int m) := at0
    have e12 : ((wds.map V.str).length : Int) = 12 := rfl
    refine ⟨_, rfl, a, _, 1, _, rfl, rfl, ha, i1, 1, c0, rfl, rfl, _, rfl, ?_⟩
    by_cases h1 : 1 ≤ c0
    rotate_left
    · rw [decide_eq_false h1]
      refine iteF ⟨false, rfl, iteT ?_⟩
      refine q1 ?_ H (Same.refl _)
      unfold recAt
      exact if_neg fun z => h1 z.1
    rw [decide_eq_true h1]
    refine iteT ⟨_, _, rfl, .inr (hW _), c0, _, rfl, rfl, _, rfl, ?_⟩
    rw [e12]
    by_cases h2 : c0 ≤ 12
    rotate_left
    · rw [decide_eq_false h2]
      refine iteT ?_
      refine q1 ?_ H (Same.refl _)
      unfold recAt
      exact if_neg fun z => h2 z.2
    rw [decide_eq_true h2]
    refine iteF ?_
    obtain ⟨ww, hw⟩ : ∃ ww : Nat, ww = (c0 - 1).toNat := ⟨_, rfl⟩
    have en : (ww : Int) = c0 - 1 := by omega
    have hlt : ww < 12 := by omega
    have iW : atI (wds.map V.str) (c0 - 1) = some (.str (wd ww)) := by
      have := atI_nat (xs := wds.map V.str) (j := ww) (v := .str (wd ww)) (by rw [List.getElem?_map, wd_at hlt]; rfl)
      rw [en] at this
      exact this
    have iN : atI (nums.map fun n : Nat => V.int n) (c0 - 1) = some (.int (nm ww)) := by
      have hn : nums[ww]? = some (nm ww) := by
        unfold nm
        rw [List.getD_eq_getElem?_getD, List.getElem?_eq_getElem (show ww < nums.length from hlt)]
        rfl
      have := atI_nat (xs := nums.map fun n : Nat => V.int n) (j := ww) (v := .int (nm ww)) (by rw [List.getElem?_map, hn]; rfl)
      rw [en] at this
      exact this
    have hn4 := nm_le ww
    have e2n : (2 : Int) + (nm ww : Int) = ((2 + nm ww : Nat) : Int) := by omega
    have eC : cutV ((m :: [c0, c1, c2, c3, c4]).map V.int) (some 2) (some ((2 + nm ww : Nat) : Int)) = (([c1, c2, c3, c4].take (nm ww)).map V.int) := by
      refine (cut_mid _ 2 (2 + nm ww)).trans ?_
      rw [show 2 + nm ww - 2 = nm ww by omega, List.map_take]
      rfl
    have hrok : (Rc.mk ww ([c1, c2, c3, c4].take (nm ww))).ok := ⟨hlt, by
      rw [List.length_take]
      exact Nat.min_eq_left hn4⟩
    refine ⟨_, rfl, a, _, 1, _, rfl, rfl, ha, i1, c0, 1, rfl, rfl, _, _, _, _, rfl, rfl, hW _, iW, ?_⟩
    refine ⟨_, rfl, 2, rfl, _, rfl, a, _, 1, _, rfl, rfl, ha, i1, c0, 1, rfl, rfl, _, _, _, _, rfl, rfl, T.numbers _, iN, 2, _, rfl, rfl, _, congrArg V.int e2n, ?_⟩
    refine ⟨a, _, rfl, ha, fun z => absurd z.1 (by rw [show (2 : Int) = ((2 : Nat) : Int) from rfl, HT.sIx_nat]; show min 2 6 ≠ 0; decide), fun _ p np => ?_⟩
    rw [eC]
    have np : H p = none := np
    have s1 := SameN (o := .tup (([c1, c2, c3, c4].take (nm ww)).map V.int)) np
    refine ⟨p, _, rfl, .inl (.of upd_same), ?_, fun p2 np2 => ?_⟩
    · simp only [List.length_append, List.length_map, List.length_cons, List.length_nil, List.length_take]
      have : (16 : Nat) ≤ sizeLine := by decide
      omega
    have s2 := SameN (o := .tup (V.str (wd ww) :: (([c1, c2, c3, c4].take (nm ww)).map V.int ++ []))) np2
    have u2 : upd (upd H p (.tup (([c1, c2, c3, c4].take (nm ww)).map V.int))) p2 (.tup (V.str (wd ww) :: (([c1, c2, c3, c4].take (nm ww)).map V.int ++ []))) p2 = some (.tup (Rc.mk ww ([c1, c2, c3, c4].take (nm ww))).vals) := upd_same.trans (by rw [List.append_nil]; rfl)
    refine ⟨_, rfl, _, rfl, a, _, 0, _, rfl, rfl, s_tup s2 (s_tup s1 ha), i0, p2, m, Rc.mk ww ([c1, c2, c3, c4].take (nm ww)), rfl, .of u2, hrok, ?_⟩
    intro H3 p3 s3 h3
    have eR : recAt [c0, c1, c2, c3, c4] = if (Rc.mk ww ([c1, c2, c3, c4].take (nm ww))).cells = [c0, c1, c2, c3, c4] then some (Rc.mk ww ([c1, c2, c3, c4].take (nm ww))) else none := by
      unfold recAt
      rw [if_pos ⟨h1, h2⟩]
      rw [hw]
      rfl
    refine ⟨_, rfl, _, _, dp_tup (.of h3), dp_tup (s_tup s3 (s_tup s2 (s_tup s1 ha))), ints_shaped _, ints_shaped _, _, rfl, ?_⟩
    rw [ints_eqv]
    by_cases hc : (Rc.mk ww ([c1, c2, c3, c4].take (nm ww))).cells = [c0, c1, c2, c3, c4]
    · rw [decide_eq_true (by rw [hc])]
      rw [if_pos hc] at eR
      exact iteT ⟨_, rfl, q2 _ eR H3 p2 (s1.trans (s2.trans s3)) (s3 _ _ u2)⟩
    · rw [decide_eq_false fun z => hc (by injection z)]
      rw [if_neg hc] at eR
      exact iteF (q1 eR H3 (s1.trans (s2.trans s3)))
def RowsRes (f : Int → Int) (t : Nat) (m : Int) (rs : List Rc) : Prop := ((f 0 = 0 ∨ tk (f 0) ≠ t) ∧ m = 0 ∧ rs = []) ∨ (f 0 ≠ 0 ∧ tk (f 0) = t ∧ m = f 0 ∧ RowsOf f (f 0) rs)
def spRowsIn (K : PySem.W.Frag) : Sp := fun vs H Q _ => ∃ (d : Addr) (t B : Nat) (kvs : List (Key × V)) (f : Int → Int), vs = [.ref d, .int t] ∧ H d = some (.dK kvs) ∧ Trep kvs f ∧ B ≤ 1000 ∧ (∀ k : Nat, B ≤ k → f (6 * k) = 0) ∧
  ∀ (H' : Hp) (p fl : Addr) (us : List V) (m : Int) (rs : List Rc), Same H H' → H' p = some (.tup [.int m, .ref fl]) → H' fl = some (.lst us) → H fl = none → LR (RecR H') us rs → RowsRes f t m rs → Q (.ref p) H'
theorem ne_vint {a b : Int} (h : a ≠ b) : (!decide (V.int a = V.int b)) = true := by
  rw [decide_eq_false fun z => h (by injection z)]
  rfl
theorem eq_vint {a b : Int} (h : a = b) : ¬ (!decide (V.int a = V.int b)) = true := by
  rw [decide_eq_true (congrArg V.int h)]
  exact Bool.false_ne_true
theorem ok_rows_in (T : Ev K mg) : OkF P w K mg base CX0 3 "rows_in" ["cells", "track"] (spRowsIn K) := by
  obtain ⟨fd, F, b⟩ := T.ds_rows_in
  obtain ⟨f1, G1, b1, k1⟩ := ok_record_in (P := P) (w := w) (base := base) T
  obtain ⟨f2, G2, b2, k2⟩ := ok_track_of (P := P) (w := w) (base := base) T
  obtain ⟨t6, h6⟩ := T.i_CELLS
  refine ⟨fd, FunD.ok F cs_rows_in ?_ ?_, b, F.kp⟩
  · rintro vs H Q E ⟨d, t, B, kvs, f, rfl, _⟩; rfl
  · rintro cdv A outer s H vs Q E hr ⟨d, t, B, kvs, f, rfl, hd, tr, hB, far, q⟩
    refine ⟨_, pss_cons (ps_par (i := 2) (j := 3) (by rfl) cs_rows_in.nd rfl rfl (by decide) rfl rfl (pa_cons (pe_dget2 (hu_of hr) (pv 0) pe_int pe_int ⟨rfl, rfl, rfl, rfl⟩) (pa_cons (pe_lst pa_nil) pa_nil)) (by rfl))
      (pss_cons (ps_if (PW.pt (pw_or (pt_cmpR op_eq (pv 2) pe_int (nomark _)) (pw_or1 (pt_cmpR op_ne (pe_call G2 (hr.mono (by decide)) rfl T.g_track_of k2 b2 .nil pass0 (pa_cons (pv 2) pa_nil)) (pv 1) (nomark _))))) (pss_one (ps_ret (pe_tup (pa_cons pe_int (pa_cons (pv 3) pa_nil))))) pss_nil)
      (pss_one (ps_while (passes_of rfl) (pt_val pe_bl)
        (pss_cons (ps_set (i := 4) cs_rows_in.nd rfl (Or.inr rfl) (pe_op op_mul (pe_glob (v := .int 6) rfl h6 ⟨_, rfl⟩) (pe_callB call_len_seq (by rfl) T.f_len PySem.boot_len (pa_cons (pv 3) pa_nil))))
        (pss_cons (ps_set (i := 5) cs_rows_in.nd rfl (Or.inl rfl) (pe_callTy call_tuple_of (by rfl) T.f_tuple (by decide +kernel) (pa_cons
          (pe_lc (own := [("spot", 7)]) (g := gName 7) (tt := tYes) rfl cs_rows_in.nd (pi_range1 (by rfl) T.f_range (pa_cons (pe_glob (v := .int 6) rfl h6 ⟨_, rfl⟩) pa_nil)) (blkOk_by (N := ["cells", "track", "mark", "found", "first", "row", "record", "spot"]) (sc := defScope s_rows_in) (by decide +kernel)) (fun _ _ _ _ _ => pg_name (i := 7) cs_rows_in.nd rfl (Or.inl rfl)) (fun _ _ _ _ _ => pts_nil)
          (fun _ _ _ _ _ => pe_dget2 (hu_of hr) (pv 0) (pe_op op_add (pv 4) (pv 7)) pe_int ⟨rfl, rfl, rfl, rfl⟩)) pa_nil)))
        (pss_cons (ps_set (i := 6) cs_rows_in.nd rfl (Or.inl rfl) (pe_call G1 hr rfl T.g_record_in k1 b1 .nil pass0 (pa_cons (pv 5) pa_nil)))
        (pss_cons (ps_if (PW.pt (pw_or (pt_cmpR op_ne (pe_ix ix_tup (pv 5) pe_int (fun _ _ => rfl)) (pv 2) (nomark _)) (pw_or1 (pt_cmpR op_isN (pv 6) pe_non (nomark _))))) (pss_one (ps_ret (pe_tup (pa_cons (pv 2) (pa_cons (pv 3) pa_nil))))) pss_nil)
        (pss_one (ps_expr (pe_bm PySem.F.plainAttrs_list PySem.F.slot_list_append PySem.F.type_list_append mt_append (pv 3) (pa_cons (pv 6) pa_nil))))))))))), ?_⟩
    refine ⟨_, rfl, d, rfl, .inl ⟨_, .of hd⟩, _, DGet.k (k := Sum.inl 0) hd, ?_⟩
    rw [tr.val 0]
    refine ⟨Nat.zero_le _, fun fl nfl => ?_⟩
    have s1 := SameN (o := .lst []) nfl
    refine ⟨_, _, rfl, ?_⟩
    have fin0 : (f 0 = 0 ∨ tk (f 0) ≠ t) → ∀ p, upd H fl (.lst []) p = none → Q (.ref p) (upd (upd H fl (.lst [])) p (.tup [.int 0, .ref fl])) := fun hc p np => by
      have s2 := SameN (o := .tup [.int 0, .ref fl]) np
      exact q _ p fl [] 0 [] (s1.trans s2) upd_same (s2 _ _ upd_same) nfl lr_nil (.inl ⟨hc, rfl, rfl⟩)
    refine ⟨_, rfl, rfl, _, rfl, ite2 (fun hc => ?_) fun hc => ?_⟩
    · have hc : f 0 = 0 := by
        have := of_decide_eq_true hc
        injection this
      exact iteT ⟨_, rfl, by show 2 ≤ sizeLine; decide, fin0 (.inl hc)⟩
    have h0 : f 0 ≠ 0 := fun z => hc (decide_eq_true (congrArg V.int z))
    refine ⟨_, rfl, f 0, rfl, _, rfl, rfl, _, rfl, ?_⟩
    by_cases ht : tk (f 0) = t
    rotate_left
    · rw [ne_vint (show ((tk (f 0) : Nat) : Int) ≠ (t : Int) by omega)]
      exact iteT ⟨_, rfl, by show 2 ≤ sizeLine; decide, fin0 (.inr ht)⟩
    rw [Bool.eq_false_iff.mpr (eq_vint (show ((tk (f 0) : Nat) : Int) = (t : Int) by omega))]
    refine iteF ?_
    refine while_by (fun σ H' => (∃ x4 x5 x6 x7, σ = [some (.ref d), some (.int t), some (.int (f 0)), some (.ref fl), x4, x5, x6, x7]) ∧ Same H H' ∧ ∃ us rs, H' fl = some (.lst us) ∧ LR (RecR H') us rs ∧ rs.length ≤ B ∧
      ∀ (i : Nat) (r : Rc), rs[i]? = some r → f (6 * i) = f 0 ∧ r.ok ∧ rowAt f i = r.cells) (fun _ H' => match H' fl with
        | some (.lst us) => B + 1 - us.length
        | _ => 0) ?_ ?_ ?_
    · exact ⟨⟨_, _, _, _, rfl⟩, s1, [], [], upd_same, lr_nil, Nat.zero_le _, fun i r e => by simp at e⟩
    · rintro σ H1 ⟨⟨x4, x5, x6, x7, rfl⟩, h1, us, rs, hfl, hrel, hle, hrows⟩
      refine ⟨true, rfl, iteT ?_⟩
      have hle2 : (6 : Int) * (us.length : Int) = 6 * (rs.length : Int) := by rw [hrel.1]
      refine ⟨_, rfl, fl, us, rfl, .inl (.of hfl), 6, _, rfl, rfl, .inl ⟨by decide, by decide⟩, ?_⟩
      refine ⟨6, rfl, by decide, by decide, fun D nD => ?_⟩
      refine lc_plain (walk_range (lo := 0) (n := 6)) ((f (6 * (rs.length : Nat)) :: rowAt f rs.length).map V.int) rfl (by decide) nD (fun _ _ => trivial) ?_ ?_
      · rintro i x H2 H3 z hi hS hz ⟨rfl, rfl⟩ R hR
        have ez : z = .int (f (6 * (rs.length : Nat) + (0 + (i : Int)))) := by
          have hi6 : i < 6 := hi
          match i, hi6 with
          | 0, _ =>
            have : V.int (f (6 * (rs.length : Nat))) = z := by simpa using hz
            rw [← this]
            simp
          | 1, _ => exact (Option.some.inj hz).symm
          | 2, _ => exact (Option.some.inj hz).symm
          | 3, _ => exact (Option.some.inj hz).symm
          | 4, _ => exact (Option.some.inj hz).symm
          | 5, _ => exact (Option.some.inj hz).symm
        have hd3 := hS _ _ (h1 _ _ hd)
        refine ⟨rfl, _, rfl, d, rfl, .inl ⟨_, .of hd3⟩, _, rfl, _, rfl, _, _, rfl, rfl, _, DGet.k (k := Sum.inl (6 * (us.length : Nat) + (0 + (i : Int)))) hd3, ?_⟩
        rw [tr.val, hle2]
        rw [ez] at hR
        exact hR _ (Same.refl _)
      · intro H2 h2 hD
        refine ⟨D, _, rfl, .inl ⟨.of hD, fun tp ntp => ?_⟩⟩
        have s3 := SameN (o := .tup ((f (6 * (rs.length : Nat)) :: rowAt f rs.length).map V.int)) ntp
        have hS3 := h1.trans (h2.trans s3)
        have hfl3 := s3 _ _ (h2 _ _ hfl)
        have hrel3 := lr_mono hrel (rec_same (h2.trans s3))
        have fin : ∀ (H4 : Hp) (p : Addr), Same (upd H2 tp (.tup ((f (6 * (rs.length : Nat)) :: rowAt f rs.length).map V.int))) H4 → (f (6 * (rs.length : Nat)) ≠ f 0 ∨ recAt (rowAt f rs.length) = none) → H4 p = none → Q (.ref p) (upd H4 p (.tup [.int (f 0), .ref fl])) := fun H4 p hs4 hc np => by
          have s5 := SameN (o := .tup [.int (f 0), .ref fl]) np
          exact q _ p fl us (f 0) rs (hS3.trans (hs4.trans s5)) upd_same (s5 _ _ (hs4 _ _ hfl3)) nfl (lr_mono hrel3 (rec_same (hs4.trans s5))) (.inr ⟨h0, ht, rfl, hrows, hc⟩)
        have tup0 : ∀ H4, Same (upd H2 tp (.tup ((f (6 * (rs.length : Nat)) :: rowAt f rs.length).map V.int))) H4 → SqT K H4 tp ((f (6 * (rs.length : Nat)) :: rowAt f rs.length).map V.int) := fun H4 h => .of (h _ _ upd_same)
        refine ⟨_, rfl, tp, _, rowAt f rs.length, rfl, .of upd_same, rfl, fun hn H4 hs4 => ?_, fun r hrec H4 p hs4 hp4 => ?_⟩
        · refine ⟨_, rfl, tp, _, 0, _, rfl, rfl, tup0 H4 hs4, at0, _, rfl, rfl, _, rfl, ite2 (fun hc => iteT ?_) fun hc => ?_⟩
          · exact ⟨_, rfl, _, rfl, by show 2 ≤ sizeLine; decide, fun p np => fin H4 p hs4 (.inr hn) np⟩
          · exact ⟨_, rfl, rfl, true, rfl, iteT ⟨_, rfl, _, rfl, by show 2 ≤ sizeLine; decide, fun p np => fin H4 p hs4 (.inr hn) np⟩⟩
        · refine ⟨_, rfl, tp, _, 0, _, rfl, rfl, tup0 H4 hs4, at0, _, rfl, rfl, _, rfl, ite2 (fun hc => iteT ?_) fun hc => ?_⟩
          · refine ⟨_, rfl, _, rfl, by show 2 ≤ sizeLine; decide, fun p np => fin H4 p hs4 (.inl fun z => ?_) np⟩
            exact eq_vint z hc
          · refine ⟨_, rfl, rfl, false, rfl, iteF ?_⟩
            have eg : f (6 * (rs.length : Nat)) = f 0 := by
              refine Classical.byContradiction fun z => hc (ne_vint z)
            have hlt : rs.length < B := by
              refine Nat.not_le.mp fun z => ?_
              have := far _ z
              rw [eg] at this
              exact h0 this
            have hfl4 := hs4 _ _ hfl3
            refine ⟨_, rfl, .inl ⟨rfl, _, .of hfl4⟩, _, rfl, fl, us, _, rfl, rfl, hfl4, by rw [hrel.1]; exact Nat.lt_of_lt_of_le (Nat.lt_of_lt_of_le hlt hB) (by decide), ?_⟩
            have nl := n_upd (ys := us ++ [.ref p]) hfl4
            refine ⟨⟨⟨_, _, _, _, rfl⟩, s_put (hS3.trans hs4) nfl, _, rs ++ [r], upd_same, lr_snoc (lr_mono (lr_mono hrel3 (rec_same hs4)) (rec_nl nl)) ⟨p, rfl, nl _ _ (fun _ z => nomatch z) hp4⟩, by rw [List.length_append, List.length_singleton]; omega, fun i r' e => ?_⟩, ?_⟩
            · by_cases hi : i < rs.length
              · rw [List.getElem?_append_left hi] at e
                exact hrows i r' e
              · have h2' := (List.getElem?_eq_some_iff.mp e).1
                rw [List.length_append, List.length_singleton] at h2'
                have ei : i = rs.length := by omega
                rw [ei] at e ⊢
                have er : r = r' := by simpa using e
                subst er
                obtain ⟨o1, o2⟩ := recAt_some rfl hrec
                exact ⟨eg, o1, o2⟩
            · rw [upd_same, hfl]
              show B + 1 - (us ++ [V.ref p]).length < B + 1 - us.length
              rw [List.length_append, List.length_singleton, hrel.1]
              omega
    · rintro σ H1 Q1 Q2 hq ⟨k, e, h⟩
      exact ⟨k, e, hq _ _ h⟩
end
end PB

/-! counting -/
namespace PB
open PySem PySem.Spec PyProof.Rows L2
def allRows (g : Int) (rs more : List Rc) : List Rc := if g = 0 then [] else rs ++ whole :: more
theorem rows_whole {F : Nat → Int → Int} {g : Int} {rs more R : List Rc} {B t : Nat} {m : Int} (h : BkSt F g rs more B) (ht : t = 1 ∨ t = 2) (r : RowsRes (F t) t m R) (hw : whole ∈ R) : m = F t 0 ∧ 0 < m ∧ m ≤ g ∧ tk m = t ∧ RowsOf (F t) m R := by
  rcases r with ⟨_, _, e⟩ | ⟨h0, e1, e2, e3⟩
  · rw [e] at hw
    simp at hw
  · have h1 := h.notAbove ht e3 hw
    have h2 : 0 ≤ F t 0 := by simpa using (h.trk t ht).lo 0
    subst e2
    exact ⟨rfl, by omega, h1, e1, e3⟩
theorem rows_now {F : Nat → Int → Int} {g : Int} {rs more R : List Rc} {B : Nat} {m : Int} (h : BkSt F g rs more B) (hg : 0 < g) (r : RowsRes (F (tk g)) (tk g) m R) : m = g ∧ R = allRows g rs more := by
  have e0 := h.at0 hg
  rcases r with ⟨e, _, _⟩ | ⟨_, _, e2, e3⟩
  · rw [e0] at e
    rcases e with e | e
    · omega
    · exact absurd rfl e
  · rw [e0] at e2 e3
    refine ⟨e2, ?_⟩
    unfold allRows
    rw [if_neg (by omega)]
    exact e3.uniq (h.rowsOf hg)
theorem count_pick {F : Nat → Int → Int} {g : Int} {rs more R1 R2 : List Rc} {B : Nat} {m1 m2 : Int} (h : BkSt F g rs more B) (r1 : RowsRes (F 1) 1 m1 R1) (r2 : RowsRes (F 2) 2 m2 R2) :
    (g = 0 ∧ whole ∉ R1 ∧ whole ∉ R2) ∨ (0 < g ∧ m1 = g ∧ R1 = allRows g rs more ∧ whole ∈ R1 ∧ (whole ∈ R2 → m2 < g)) ∨ (0 < g ∧ m2 = g ∧ R2 = allRows g rs more ∧ whole ∈ R2 ∧ (whole ∈ R1 → m1 < g)) := by
  by_cases hg : g = 0
  · refine .inl ⟨hg, fun z => ?_, fun z => ?_⟩
    · have := rows_whole h (.inl rfl) r1 z
      omega
    · have := rows_whole h (.inr rfl) r2 z
      omega
  · have hg0 : 0 < g := by have := h.g0; omega
    have hw : whole ∈ allRows g rs more := by
      unfold allRows
      rw [if_neg hg]
      simp
    rcases tk_cases g with e | e
    · have q := rows_now (m := m1) (R := R1) h hg0 (by rw [e]; exact r1)
      refine .inr (.inl ⟨hg0, q.1, q.2, q.2 ▸ hw, fun z => ?_⟩)
      have k := rows_whole h (.inr rfl) r2 z
      rcases Int.lt_or_eq_of_le k.2.2.1 with l | l
      · exact l
      · have := k.2.2.2.1
        rw [l, e] at this
        cases this
    · have q := rows_now (m := m2) (R := R2) h hg0 (by rw [e]; exact r2)
      refine .inr (.inr ⟨hg0, q.1, q.2, q.2 ▸ hw, fun z => ?_⟩)
      have k := rows_whole h (.inl rfl) r1 z
      rcases Int.lt_or_eq_of_le k.2.2.1 with l | l
      · exact l
      · have := k.2.2.2.1
        rw [l, e] at this
        cases this
theorem has_whole : ∀ {rs : List Rc}, (∀ r ∈ rs, r.ok) → ((rs.map Rc.dat).any fun z => PyData.eqv z whole.dat) = decide (whole ∈ rs)
  | [], _ => by simp
  | r :: rs, h => by
    rw [List.map_cons, List.any_cons, has_whole fun q hq => h q (List.mem_cons_of_mem _ hq), dat_eqv (h r List.mem_cons_self) whole_ok]
    by_cases e : r = whole
    · subst e
      simp
    · have e2 : whole ≠ r := fun z => e z.symm
      simp [e, e2]
theorem res_ok {f : Int → Int} {t : Nat} {m : Int} {R : List Rc} (r : RowsRes f t m R) : ∀ q ∈ R, q.ok := by
  rcases r with ⟨_, _, e⟩ | ⟨_, _, _, e⟩
  · rw [e]
    intro q hq
    simp at hq
  · intro q hq
    obtain ⟨i, hi⟩ := List.mem_iff_getElem?.mp hq
    exact (e.at_ i q hi).2.1
def bdat (m : Int) (rs : List Rc) : PyData := .tuple [.int m, .list (rs.map Rc.dat)]
theorem bdat_lay (m : Int) (rs : List Rc) : (bdat m rs).canLay0 = true := by simp [bdat, PyData.canLay0, PyData.canLayAll0, dats_lay]
theorem bdat_depth (m : Int) (rs : List Rc) : (bdat m rs).depth ≤ 3 := by
  have := dats_depth rs
  simp only [bdat, PyData.depth, PyData.depthAll]
  omega
theorem bdats_shaped : ∀ bs : List (Int × List Rc), SeqAt.shaped (.list (bs.map fun b => bdat b.1 b.2)) = true := by
  intro bs
  have h1 : PyData.canLayAll0 (bs.map fun b => bdat b.1 b.2) = true := by
    induction bs with
    | nil => simp [PyData.canLayAll0]
    | cons b bs ih => simp [PyData.canLayAll0, bdat_lay, ih]
  have h2 : PyData.depthAll (bs.map fun b => bdat b.1 b.2) ≤ 3 := by
    induction bs with
    | nil => simp [PyData.depthAll]
    | cons b bs ih =>
      have := bdat_depth b.1 b.2
      have := ih (by simpa [PyData.canLayAll0, bdat_lay] using h1)
      simp only
          [List.map_cons, PyData.depthAll]
      omega
  have h3 : PyData.depth (.list (bs.map fun b => bdat b.1 b.2)) ≤ 64 := by
    simp only [PyData.depth]
    omega
  show (PyData.canLay0 (.list (bs.map fun b => bdat b.1 b.2)) && decide (PyData.depth (.list (bs.map fun b => bdat b.1 b.2)) ≤ 64)) = true
  rw [Bool.and_eq_true]
  exact ⟨by simp only [PyData.canLay0]; exact h1, decide_eq_true h3⟩
/-- a book's tuple: its mark, its rows -/
def BkR (H : Hp) (b : Int × List Rc) (v : V) : Prop := ∃ p fl us, v = .ref p ∧ H p = some (.tup [.int b.1, .ref fl]) ∧ H fl = some (.lst us) ∧ LR (RecR H) us b.2
theorem bk_same {H H' : Hp} (e : Same H H') : ∀ b v, BkR H b v → BkR H' b v := fun b v ⟨p, fl, us, h1, h2, h3, h4⟩ => ⟨p, fl, us, h1, e _ _ h2, e _ _ h3, lr_mono h4 (rec_same e)⟩
theorem dp_bk {K : PySem.W.Frag} {H : Hp} {b : Int × List Rc} {v : V} (h : BkR H b v) : Dp K H v (bdat b.1 b.2) := by
  obtain ⟨p, fl, us, rfl, h2, h3, h4⟩ := h
  exact .tup (.of h2) (.cons (.int _) (.cons (.lst (.of h3) (dp_recs h4)) .nil))
theorem dp_bks {K : PySem.W.Frag} {H : Hp} : ∀ {vs : List V} {bs : List (Int × List Rc)}, LR (BkR H) vs bs → DpAll K H vs (bs.map fun b => bdat b.1 b.2)
  | [], [], _ => .nil
  | [], r :: rs, h => by cases h.1
  | v :: vs, [], h => by cases h.1
  | v :: vs, r :: rs, h => by
    obtain ⟨u, e1, e2⟩ := h.2 0 r rfl
    cases e1
    exact .cons (dp_bk e2) (dp_bks ⟨by have := h.1; simpa using this, fun i x e => h.2 (i + 1) x e⟩)
theorem eqv_empty (bs : List (Int × List Rc)) : PyData.eqv (.list (bs.map fun b => bdat b.1 b.2)) (.list []) = bs.isEmpty := by
  cases bs with
  | nil => simp [PyData.eqv, PyData.eqvAll]
  | cons b bs => simp [PyData.eqv, PyData.eqvAll]
def BkD (D : Addr) (H : Hp) (b : Int × List Rc) (v : V) : Prop := ∃ p fl us, v = .ref p ∧ H p = some (.tup [.int b.1, .ref fl]) ∧ H fl = some (.lst us) ∧ LR (RecR H) us b.2 ∧ fl ≠ D
theorem bkd_same {D : Addr} {H H' : Hp} (e : Same H H') : ∀ b v, BkD D H b v → BkD D H' b v := fun b v ⟨p, fl, us, h1, h2, h3, h4, h5⟩ => ⟨p, fl, us, h1, e _ _ h2, e _ _ h3, lr_mono h4 (rec_same e), h5⟩
theorem bkd_upd {D : Addr} {H : Hp} {xs ys : List V} (hD : H D = some (.lst xs)) : ∀ b v, BkD D H b v → BkD D (upd H D (.lst ys)) b v := fun b v ⟨p, fl, us, h1, h2, h3, h4, h5⟩ =>
  ⟨p, fl, us, h1, n_upd hD _ _ (fun _ z => nomatch z) h2, (upd_ne h5).trans h3, lr_mono h4 (rec_nl (n_upd hD)), h5⟩
theorem bkd_bk {D : Addr} {H : Hp} : ∀ b v, BkD D H b v → BkR H b v := fun b v ⟨p, fl, us, h1, h2, h3, h4, _⟩ => ⟨p, fl, us, h1, h2, h3, h4⟩
theorem bkd_of {D : Addr} {H : Hp} (n : H D = none) : ∀ b v, BkR H b v → BkD D H b v := fun b v ⟨p, fl, us, h1, h2, h3, h4⟩ => ⟨p, fl, us, h1, h2, h3, h4, nne h3 n⟩
theorem hu65 {A : Around} {k : Nat} (hr : Room k A) : A.units + 65 < cLine := by
  have := hr.un
  omega
def rDictT (K : PySem.W.Frag) : List V → Hp → VK → Prop := fun xs H Q => ∃ (a : Addr) (o : Obj) (ps : List Addr) (kvs : List (Key × V)), xs = [.ref a] ∧ H a = some (.frz o (.tup (ps.map V.ref))) ∧ o.dict = none ∧ Paired (fun p kv => SqT K H p [kV kv.1, kv.2]) ps kvs ∧
    ∀ p, H p = none → Q (.ref p) (upd H p (.dK (mergeK [] kvs)))
theorem call_dictT2 {X : Cx} (hc : X.calm = true) : CallR X (.type "dict") (rDictT X.K) := call_dictT hc
section
variable
    {P : Program} {w : World} {K : PySem.W.Frag} {mg : Str → Option Value} {base : Heap}
def spCounting (K : PySem.W.Frag) : Sp := fun vs H Q _ => ∃ (p : Addr) (D : Dk) (g : Int) (rs more : List Rc) (B : Nat), vs = [.ref p] ∧ DiskAt K H p D ∧ BkSt D.F g rs more B ∧ B ≤ 1000 ∧
  ∀ (H' : Hp) (tp fl : Addr) (us : List V), Same H H' → H' tp = some (.tup [.int g, .ref fl]) → H' fl = some (.lst us) → LR (RecR H') us (allRows g rs more) → Q (.ref tp) H'
theorem ok_counting (T : Ev K mg) : OkF P w K mg base CX0 6 "counting" ["disk"] (spCounting K) := by
  obtain ⟨fd, F, b⟩ := T.ds_counting
  obtain ⟨f1, G1, b1, k1⟩ := ok_rows_in (P := P) (w := w) (base := base) T
  obtain ⟨f2, G2, b2⟩ := ok_kept (P := P) (w := w) (base := base) T
  refine ⟨fd, FunD.ok F cs_counting ?_ ?_, b, F.kp⟩
  · rintro vs H Q E ⟨p, D, g, rs, more, B, rfl, _⟩; rfl
  · rintro cdv A outer s H vs Q E hr ⟨p, D, g, rs, more, B, rfl, h, hb, hB, q⟩
    refine ⟨_, pss_cons (ps_setLc (i := 1) (own := [("track", 3)]) (g := gName 3) (tt := tYes) (te := tCall (spRowsIn K) [] E0 (tCons (tCB (rDictT K) (tCons (tMeth (He.ga K "Disk") "kept" (spKept K) [] E0 (tVar 0) (tCons (tVar 3) tNil)) tNil)) (tCons (tVar 3) tNil))) (by rfl) cs_counting.nd rfl rfl (sw_true rfl rfl rfl (by decide +kernel)) (pi_tup (pe_glob (v := .ref (He.ga K "BOOK_TRACKS")) rfl T.g_BOOK_TRACKS rfl)) (blkOk_by (N := ["disk", "books", "wholes", "track", "book"]) (sc := defScope s_counting) (by decide +kernel)) (fun _ _ _ _ _ => pg_name (i := 3) cs_counting.nd rfl (Or.inl rfl)) (fun _ _ _ _ _ => pts_nil)
        (fun _ _ _ _ _ => pe_call G1 (hr.mono (by decide)) rfl T.g_rows_in k1 b1 .nil pass0 (pa_cons (pe_callTy (call_dictT2 rfl) (by rfl) T.f_dict (by decide +kernel) (pa_cons (pe_meth (pv 0) T.c_Disk T.mD_kept G2 hr b2 .nil pass0 (pa_cons (pv 3) pa_nil)) pa_nil)) (pa_cons (pv 3) pa_nil))))
      (pss_cons (ps_setLc (i := 2) (own := [("book", 4)]) (g := gName 4) (tt := tTest (tOp (rInD K) (tC (.ref (He.ga K "WHOLE"))) (tOp (rIxT K) (tVar 4) (tC (.int 1))))) (by rfl) cs_counting.nd rfl rfl (sw_true rfl rfl rfl (by decide +kernel)) (pi_list (pv 1)) (blkOk_by (N := ["disk", "books", "wholes", "track", "book"]) (sc := defScope s_counting) (by decide +kernel)) (fun _ _ _ _ _ => pg_name (i := 4) cs_counting.nd rfl (Or.inl rfl))
        (fun _ _ _ _ _ => pts_one (pt_cmpR (op_inD (hu65 hr)) (pe_glob (v := .ref (He.ga K "WHOLE")) rfl T.g_WHOLE rfl) (pe_ix ix_tup (pv 4) pe_int (fun _ _ => rfl)) (by rfl)))
        (fun _ _ _ _ _ => pv 4))
      (pss_cons (ps_if (pt_cmpR (op_eqD hr.units) (pv 2) (pe_lst pa_nil) (nomark _)) (pss_one (ps_ret (pe_tup (pa_cons pe_int (pa_cons (pe_lst pa_nil) pa_nil))))) pss_nil)
      (pss_one (ps_ret (pe_ifExp (PW.pt (pw_or (pt_cmpR op_eq (pe_callB call_len_seq (by rfl) T.f_len PySem.boot_len (pa_cons (pv 2) pa_nil)) pe_int (nomark _)) (pw_or1 (pt_cmpR op_gt (pe_ix ix_tup (pe_ix ix_list (pv 2) pe_int (fun _ _ => rfl)) pe_int (fun _ _ => rfl)) (pe_ix ix_tup (pe_ix ix_list (pv 2) pe_int (fun _ _ => rfl)) pe_int (fun _ _ => rfl)) (nomark _)))))
        (pe_ix ix_list (pv 2) pe_int (fun _ _ => rfl)) (pe_ix ix_list (pv 2) pe_int (fun _ _ => rfl))))))), ?_⟩
    refine ⟨_, rfl, ⟨_, T.tracks H⟩, fun Dl nD => ?_⟩
    refine lc_tup (K := K) (a := He.ga K "BOOK_TRACKS") (xs := [.int 1, .int 2]) (fun i H' => Same H H' ∧ ∃ acc bs, H' Dl = some (.lst acc) ∧ LR (BkD Dl H') acc bs ∧ bs.length = i ∧ ∀ (j : Nat) (b : Int × List Rc), bs[j]? = some b → RowsRes (D.F (j + 1)) (j + 1) b.1 b.2) ?_ ?_ ?_ ?_
    · exact ⟨SameN nD, [], [], upd_same, lr_nil, rfl, fun j b e => by simp at e⟩
    · rintro i H' _ _
      exact T.tracks H'
    · rintro i x H2 hx ⟨h2, acc, bs, hD, hrel, hlen, hrr⟩
      have hi2 : i < 2 := (List.getElem?_eq_some_iff.mp hx).1
      have ex : x = .int ((i + 1 : Nat) : Int) := by
        match i, hi2, hx with
        | 0, _, hx => exact (Option.some.inj hx).symm
        | 1, _, hx => exact (Option.some.inj hx).symm
      subst ex
      simp only [tYes, ↓reduceIte]
      have hd2 := h.same h2
      have ht : i + 1 = 1 ∨ i + 1 = 2 := by omega
      refine ⟨rfl, _, rfl, p, _, _, rfl, hd2.obj, rfl, _, rfl, p, D, i + 1, rfl, hd2, by omega, ?_⟩
      intro H3 tp o ys h3 ntp htp ho hpairs
      obtain ⟨ps, kvs, rfl, hp, tr⟩ := hpairs.trep (K := K)
      refine ⟨tp, o, ps, kvs, rfl, htp, ho, hp, fun d nd => ?_⟩
      have s4 := SameN (o := .dK (mergeK [] kvs)) nd
      refine ⟨_, rfl, d, i + 1, B, mergeK [] kvs, D.F (i + 1), rfl, upd_same, tr, hB, (hb.trk _ ht).far, ?_⟩
      intro H5 pp fl us m R h5 hpp hfl nfl hus hres
      have hDl := h5 _ _ (s4 _ _ (h3 _ _ hD))
      have sA := h3.trans (s4.trans h5)
      have nfD : fl ≠ Dl := fun z => by
        rw [z, s4 _ _ (h3 _ _ hD)] at nfl
        cases nfl
      refine ⟨acc, hDl, small1000 (by rw [hrel.1]; omega), s_put (h2.trans sA) nD, _, bs ++ [(m, R)], upd_same, ?_, by rw [List.length_append, hlen]; rfl, fun j b e => ?_⟩
      · exact lr_snoc (lr_mono hrel fun b v hbv => bkd_upd hDl b v (bkd_same sA b v hbv)) (bkd_upd hDl _ _ ⟨pp, fl, us, rfl, hpp, hfl, hus, nfD⟩)
      · by_cases hj : j < bs.length
        · rw [List.getElem?_append_left hj] at e
          exact hrr j b e
        · have h2' := (List.getElem?_eq_some_iff.mp e).1
          rw [List.length_append, List.length_singleton] at h2'
          have ej : j = bs.length := by omega
          rw [ej, List.getElem?_append_right (Nat.le_refl _)] at e
          have eb : (m, R) = b := by simpa using e
          rw [ej, ← eb, hlen]
          exact hres
    · rintro H1 ⟨h1, acc, bs, hD, hrel, hlen, hrr⟩
      obtain ⟨b1, b2, rfl⟩ : ∃ b1 b2, bs = [b1, b2] := by
        match bs, hlen with
        | [b1, b2], _ => exact ⟨b1, b2, rfl⟩
      obtain ⟨m1, R1⟩ := b1
      obtain ⟨m2, R2⟩ := b2
      have r1 : RowsRes (D.F 1) 1 m1 R1 := hrr 0 _ rfl
      have r2 : RowsRes (D.F 2) 2 m2 R2 := hrr 1 _ rfl
      have pick := count_pick hb r1 r2
      have hlacc : acc.length = 2 := hrel.1
      refine ⟨_, rfl, Dl, rfl, ⟨_, .of hD⟩, fun D2 nD2 => ?_⟩
      have hrel2 : LR (BkD D2 H1) acc [(m1, R1), (m2, R2)] := lr_mono hrel fun b v hv => bkd_of nD2 b v (bkd_bk b v hv)
      refine lc_list (K := K) (a := Dl) (xs := acc) (fun i H' => Same H1 H' ∧ ∃ ac, H' D2 = some (.lst ac) ∧ LR (BkD D2 H') ac (([(m1, R1), (m2, R2)].take i).filter fun b => decide (whole ∈ b.2)) ∧ ac.length ≤ i) ?_ ?_ ?_ ?_
      · exact ⟨SameN nD2, [], upd_same, lr_nil, Nat.zero_le _⟩
      · rintro i H' _ ⟨h', _⟩
        exact .of (h' _ _ hD)
      · rintro i x H2 hx ⟨h2, ac, hD2, hac, hacl⟩
        obtain ⟨bb, ebb, hbb⟩ := lr_at hrel2 hx
        have hi2 : i < 2 := by have := (List.getElem?_eq_some_iff.mp hx).1; omega
        have hbb2 := bkd_same h2 _ _ hbb
        obtain ⟨pp, fl, us, rfl, hpp, hfl, hus, nfl⟩ := hbb2
        have hok : ∀ r ∈ bb.2, r.ok := by
          match i, hi2, ebb with
          | 0, _, ebb => cases ebb; exact res_ok r1
          | 1, _, ebb => cases ebb; exact res_ok r2
        refine ⟨rfl, _, rfl, pp, _, 1, _, rfl, rfl, .of hpp, at1, whole.dat, _, dp_rec (T.wholeT _), .lst (.of hfl) (dp_recs hus), dat_shaped _, dats_shaped _, _, rfl, ?_⟩
        rw [has_whole hok, take_snoc ebb, List.filter_append]
        by_cases c : whole ∈ bb.2
        · rw [decide_eq_true c]
          have e1 : [bb].filter (fun b => decide (whole ∈ b.2)) = [bb] := by simp [c]
          rw [e1]
          refine iteT ⟨_, rfl, ac, hD2, small1000 (by omega), s_put h2 nD2, _, upd_same, lr_snoc (lr_mono hac (bkd_upd hD2)) (bkd_upd hD2 _ _ ⟨pp, fl, us, rfl, hpp, hfl, hus, nfl⟩), by rw [List.length_append, List.length_singleton]; omega⟩
        · rw [decide_eq_false c]
          have e1 : [bb].filter (fun b => decide (whole ∈ b.2)) = [] := by simp [c]
          rw [e1, List.append_nil]
          exact iteF ⟨h2, ac, hD2, hac, by omega⟩
      · rintro H2 ⟨h2, ac, hD2, hac, _⟩
        rw [hlacc] at hac
        have hac : LR (BkR H2) ac ([(m1, R1), (m2, R2)].filter fun b => decide (whole ∈ b.2)) := lr_mono hac bkd_bk
        have sH := h1.trans h2
        refine ⟨_, rfl, Nat.zero_le _, fun l3 n3 => ?_⟩
        have s3 := SameN (o := .lst []) n3
        refine ⟨_, .list [], .lst (.of (s3 _ _ hD2)) (dp_bks (lr_mono hac (bk_same s3))), .lst (.of upd_same) .nil, bdats_shaped _, by rfl, _, rfl, ?_⟩
        rw [eqv_empty]
        have end0 : ∀ (_ : g = 0), (Nat.zero ≤ sizeLine ∧ ∀ l : Addr, upd H2 l3 (.lst []) l = none → 2 ≤ sizeLine ∧ ∀ p', upd (upd H2 l3 (.lst [])) l (.lst []) p' = none → Q (.ref p') (upd (upd (upd H2 l3 (.lst [])) l (.lst [])) p' (.tup [.int 0, .ref l]))) := fun hg => by
          refine ⟨Nat.zero_le _, fun l nl => ⟨by decide, fun p' np' => ?_⟩⟩
          have s4 := SameN (o := .lst []) nl
          have s5 := SameN (o := .tup [.int 0, .ref l]) np'
          refine q _ p' l [] (sH.trans (s3.trans (s4.trans s5))) (by rw [upd_same, hg]) (s5 _ _ upd_same) ?_
          unfold allRows
          rw [if_pos hg]
          exact lr_nil
        have answer : ∀ (v : V) (R : List Rc), BkR H2 (g, R) v → R = allRows g rs more → Q v (upd H2 l3 (.lst [])) := fun v R hv hR => by
          obtain ⟨pp, fl, us, rfl, hpp, hfl, hus⟩ := bk_same s3 _ _ hv
          exact q _ pp fl us (sH.trans s3) hpp hfl (hR ▸ hus)
        have dis : (g = 0 ∧ [(m1, R1), (m2, R2)].filter (fun b => decide (whole ∈ b.2)) = []) ∨ (∃ b, [(m1, R1), (m2, R2)].filter (fun b => decide (whole ∈ b.2)) = [b] ∧ b = (g, allRows g rs more)) ∨
            ∃ b b', [(m1, R1), (m2, R2)].filter (fun b => decide (whole ∈ b.2)) = [b, b'] ∧ ((b'.1 < b.1 ∧ b = (g, allRows g rs more)) ∨ (¬ b'.1 < b.1 ∧ b' = (g, allRows g rs more))) := by
          rcases pick with ⟨hg, n1, n2⟩ | ⟨hg, hm, hR, w1, h2lt⟩ | ⟨hg, hm, hR, w2, h1lt⟩
          · exact .inl ⟨hg, by simp [n1, n2]⟩
          · by_cases w2 : whole ∈ R2
            · exact .inr (.inr ⟨(m1, R1), (m2, R2), by simp [w1, w2], .inl ⟨by have := h2lt w2; show m2 < m1; omega, by rw [hm, hR]⟩⟩)
            · exact .inr (.inl ⟨(m1, R1), by simp [w1, w2], by rw [hm, hR]⟩)
          · by_cases w1 : whole ∈ R1
            · exact .inr (.inr ⟨(m1, R1), (m2, R2), by simp [w1, w2], .inr ⟨by have := h1lt w1; show ¬ m2 < m1; omega, by rw [hm, hR]⟩⟩)
            · exact .inr (.inl ⟨(m2, R2), by simp [w1, w2], by rw [hm, hR]⟩)
        rcases dis with ⟨hg, e0⟩ | ⟨bb, e0, rfl⟩ | ⟨bb, bb', e0, hcase⟩
        · rw [e0]
          exact iteT (end0 hg)
        · rw [e0] at hac ⊢
          refine iteF ?_
          obtain ⟨v, ev, hv⟩ := hac.2 0 _ rfl
          have hl1 := hac.1
          match ac, hl1, ev with
          | [u], _, ev =>
            cases ev
            refine ⟨_, rfl, _, _, rfl, .inl (.of (s3 _ _ hD2)), rfl, _, rfl, iteT (iteT ?_)⟩
            exact ⟨_, rfl, D2, _, 0, _, rfl, rfl, .of (s3 _ _ hD2), at0, answer _ _ hv rfl⟩
        · rw [e0] at hac ⊢
          refine iteF ?_
          obtain ⟨v, ev, hv⟩ := hac.2 0 _ rfl
          obtain ⟨v', ev', hv'⟩ := hac.2 1 _ rfl
          have hl2 := hac.1
          match ac, hl2, ev, ev' with
          | [u, u'], _, ev, ev' =>
            cases ev
            cases ev'
            have hD3 := s3 _ _ hD2
            obtain ⟨p1, x1, y1, e1, e2, _⟩ := bk_same s3 _ _ hv
            obtain ⟨p2, x2, y2, e3, e4, _⟩ := bk_same s3 _ _ hv'
            refine ⟨_, rfl, _, _, rfl, .inl (.of hD3), rfl, _, rfl, iteF ?_⟩
            refine ⟨_, rfl, D2, _, 0, _, rfl, rfl, .of hD3, at0, p1, _, 0, _, e1, rfl, .of e2, at0, _, rfl, D2, _, 1, _, rfl, rfl, .of hD3, at1, p2, _, 0, _, e3, rfl, .of e4, at0, _, _, rfl, rfl, _, rfl, ?_⟩
            rcases hcase with ⟨hlt, rfl⟩ | ⟨hlt, rfl⟩
            · rw [decide_eq_true hlt]
              exact iteT ⟨_, rfl, D2, _, 0, _, rfl, rfl, .of hD3, at0, answer _ _ hv rfl⟩
            · rw [decide_eq_false hlt]
              exact iteF ⟨_, rfl, D2, _, 1, _, rfl, rfl, .of hD3, at1, answer _ _ hv' rfl⟩
end
end PB

/-! without_whole, is_record, are_records, meant -/
namespace PB
open PySem PySem.Spec PyProof.Rows L2
section
variable
    {P : Program} {w : World} {K : PySem.W.Frag} {mg : Str → Option Value} {base : Heap}
def noWhole (rs : List Rc) : List Rc := rs.filter fun r => !decide (r = whole)
theorem noWhole_good {rs : List Rc} (h : ∀ r ∈ rs, r.good) : noWhole rs = rs := by
  unfold noWhole
  refine List.filter_eq_self.mpr fun r hr => ?_
  rw [decide_eq_false (h r hr).ne]
  rfl
theorem noWhole_all {F : Nat → Int → Int} {g : Int} {rs more : List Rc} {B : Nat} (h : BkSt F g rs more B) : noWhole (allRows g rs more) = rs ++ more := by
  unfold allRows
  by_cases hg : g = 0
  · obtain ⟨e1, e2⟩ := h.zero hg
    rw [if_pos hg, e1, e2]
    rfl
  · rw [if_neg hg]
    unfold noWhole
    rw [List.filter_append]
    have e1 := noWhole_good fun r hr => h.good r (List.mem_append_left _ hr)
    have e2 := noWhole_good fun r hr => h.good r (List.mem_append_right rs hr)
    unfold noWhole at e1 e2
    rw [e1, List.filter_cons_of_neg (by simp), e2]
def spNoWhole (K : PySem.W.Frag) : Sp := fun vs H Q _ => ∃ (a : Addr) (us : List V) (rs : List Rc), vs = [.ref a] ∧ SqL K H a us ∧ LR (RecR H) us rs ∧ (∀ r ∈ rs, r.ok) ∧ rs.length ≤ 1000 ∧
  ∀ (H' : Hp) (l : Addr) (us' : List V), Same H H' → H l = none → H' l = some (.lst us') → LR (RecR H') us' (noWhole rs) → Q (.ref l) H'
theorem ok_without_whole (T : Ev K mg) : OkF P w K mg base CX0 1 "without_whole" ["rows"] (spNoWhole K) := by
  obtain ⟨fd, F, b⟩ := T.ds_without_whole
  refine ⟨fd, FunD.ok F cs_without_whole ?_ ?_, b, F.kp⟩
  · rintro vs H Q E ⟨a, us, rs, rfl, _⟩; rfl
  · rintro cdv A outer s H vs Q E hr ⟨a, us, rs, rfl, ha, hrel, hok, hlen, q⟩
    refine ⟨_, pss_one (ps_ret (pe_lc (own := [("record", 1)]) (g := gName 1) (tt := tTest (tOp (rNeD K) (tVar 1) (tC (.ref (He.ga K "WHOLE"))))) rfl cs_without_whole.nd (pi_list (pv 0)) (blkOk_by (N := ["rows", "record"]) (sc := defScope s_without_whole) (by decide +kernel)) (fun _ _ _ _ _ => pg_name (i := 1) cs_without_whole.nd rfl (Or.inl rfl))
        (fun _ _ _ _ _ => pts_one (pt_cmpR (op_neD hr.units) (pv 1) (pe_glob (v := .ref (He.ga K "WHOLE")) rfl T.g_WHOLE rfl) (nomark _)))
        (fun _ _ _ _ _ => pv 1))), ?_⟩
    refine ⟨_, rfl, a, rfl, ⟨_, ha⟩, fun D nD => ?_⟩
    refine lc_list (K := K) (a := a) (xs := us) (fun i H' => Same H H' ∧ ∃ ac, H' D = some (.lst ac) ∧ LR (RecR H') ac (noWhole (rs.take i)) ∧ ac.length ≤ i) ?_ ?_ ?_ ?_
    · exact ⟨SameN nD, [], upd_same, lr_nil, Nat.zero_le _⟩
    · rintro i H' _ ⟨h', _⟩
      exact h'.seq ha
    · rintro i x H2 hx ⟨h2, ac, hD2, hac, hacl⟩
      obtain ⟨r, er, hr2⟩ := lr_at hrel hx
      have hi : i < rs.length := (List.getElem?_eq_some_iff.mp er).1
      obtain ⟨aa, rfl, haa⟩ := rec_same h2 _ _ hr2
      have hrok := hok r (List.mem_of_getElem? er)
      refine ⟨rfl, _, rfl, _, _, dp_rec (.of haa), dp_rec (T.wholeT _), dat_shaped _, dat_shaped _, _, rfl, ?_⟩
      rw [dat_eqv hrok whole_ok, take_snoc er]
      unfold noWhole
      rw [List.filter_append]
      by_cases c : r = whole
      · rw [decide_eq_true c]
        have e1 : [r].filter (fun r => !decide (r = whole)) = [] := by simp [c]
        rw [e1, List.append_nil]
        exact iteF ⟨h2, ac, hD2, hac, by omega⟩
      · rw [decide_eq_false c]
        have e1 : [r].filter (fun r => !decide (r = whole)) = [r] := by simp [c]
        rw [e1]
        exact iteT ⟨_, rfl, ac, hD2, small1000 (by omega), s_put h2 nD, _, upd_same, lr_snoc (lr_mono hac (rec_nl (n_upd hD2))) ⟨aa, rfl, n_upd hD2 _ _ (fun _ z => nomatch z) haa⟩, by rw [List.length_append, List.length_singleton]; omega⟩
    · rintro H2 ⟨h2, ac, hD2, hac, _⟩
      rw [hrel.1, List.take_length] at hac
      exact q H2 D ac h2 nD hD2 hac
def spIsRec (K : PySem.W.Frag) : Sp := fun vs H Q _ => ∃ (a : Addr) (r : Rc), vs = [.ref a] ∧ SqT K H a r.vals ∧ r.good ∧ ∀ H', Same H H' → Q (.bl true) H'
theorem wd_in : ∀ j < 12, inV (.str (wd j)) (wds.map V.str) = true := by decide +kernel
theorem wd_not : ∀ j < 11, V.str (wd j) ≠ V.str "whole" := by decide +kernel
theorem wds_flat : (wds.map V.str).all flatV = true := by decide +kernel
theorem nm_at {i : Nat} (h : i < 12) : atI (nums.map fun n : Nat => V.int n) (i : Int) = some (.int (nm i)) := by
  refine atI_nat ?_
  have hn : nums[i]? = some (nm i) := by
    unfold nm
    rw [List.getD_eq_getElem?_getD, List.getElem?_eq_getElem (show i < nums.length from h)]
    rfl
  rw [List.getElem?_map, hn]
  rfl
theorem ok_is_record (T : Ev K mg) : OkF P w K mg base CX0 3 "is_record" ["value"] (spIsRec K) := by
  obtain ⟨fd, F, b⟩ := T.ds_is_record
  obtain ⟨fW, GW, bW, kW⟩ := ok_is_within (P := P) (w := w) (base := base) T
  obtain ⟨t, ht⟩ := T.i_MOST_IN_CELL
  obtain ⟨hW, oW, lW, cW, dW⟩ := T.words
  refine ⟨fd, FunD.ok F cs_is_record ?_ ?_, b, F.kp⟩
  · rintro vs H Q E ⟨a, r, rfl, _⟩; rfl
  · rintro cdv A outer s H vs Q E hr ⟨a, r, rfl, ha, hg, q⟩
    refine ⟨_, pss_cons (ps_if (PW.pt (pw_or (pt_not (pt_val (pe_callB call_isiT (by rfl) T.f_isinstance (by decide +kernel) (pa_cons (pv 0) (pa_cons (pe_tup (pa_cons (pe_bltn (v := .ty "list") (by rfl) T.f_list (by decide +kernel) rfl) (pa_cons (pe_bltn (v := .ty "tuple") (by rfl) T.f_tuple (by decide +kernel) rfl) pa_nil))) pa_nil)))))
        (pw_or (pt_cmpR op_eq (pe_callB call_len_seq (by rfl) T.f_len PySem.boot_len (pa_cons (pv 0) pa_nil)) pe_int (nomark _))
        (pw_or1 (pt_not (pt_val (pe_callB call_isi (by rfl) T.f_isinstance (by decide +kernel) (pa_cons (pe_ix ix_tup (pv 0) pe_int (fun _ _ => rfl)) (pa_cons (pe_bltn (v := .ty "str") (by rfl) T.f_str (by decide +kernel) rfl) pa_nil))))))))) (pss_one ps_never) pss_nil)
      (pss_cons (ps_if (PW.pt (pw_or (pt_cmpR op_notIn_seq (pe_ix ix_tup (pv 0) pe_int (fun _ _ => rfl)) (pe_glob (v := .ref (He.ga K "WORDS")) rfl T.g_WORDS rfl) (by rfl))
        (pw_or (pt_cmpR op_eq (pe_ix ix_tup (pv 0) pe_int (fun _ _ => rfl)) (pe_ix ix_tup (pe_glob (v := .ref (He.ga K "WHOLE")) rfl T.g_WHOLE rfl) pe_int (fun _ _ => rfl)) (nomark _))
        (pw_or1 (pt_cmpR op_ne (pe_callB call_len_seq (by rfl) T.f_len PySem.boot_len (pa_cons (pv 0) pa_nil)) (pe_op op_add pe_int (pe_ix ix_tup (pe_glob (v := .ref (He.ga K "NUMBERS")) rfl T.g_NUMBERS rfl)
          (pe_bm PySem.F.plainAttrs_tuple PySem.F.slot_tuple_index PySem.F.type_tuple_index mt_tup_index (pe_glob (v := .ref (He.ga K "WORDS")) rfl T.g_WORDS rfl) (pa_cons (pe_ix ix_tup (pv 0) pe_int (fun _ _ => rfl)) pa_nil)) (fun _ _ => rfl))) (nomark _)))))) (pss_one ps_never) pss_nil)
      (pss_one (ps_ret (pe_callB (cr_all rfl) (by rfl) T.f_all (by decide +kernel) (pa_cons
        (pe_lc (own := [("number", 1)]) (g := gName 1) (tt := tYes) rfl cs_is_record.nd (pi_tup (pe_slice sl_tupA (pv 0) (po_some pe_int) po_none)) (blkOk_by (N := ["value", "number"]) (sc := defScope s_is_record) (by decide +kernel)) (fun _ _ _ _ _ => pg_name (i := 1) cs_is_record.nd rfl (Or.inl rfl)) (fun _ _ _ _ _ => pts_nil)
          (fun _ _ _ _ _ => pe_call GW (hr.mono (by decide)) rfl T.g_is_within kW bW .nil pass0 (pa_cons (pv 1) (pa_cons pe_int (pa_cons (pe_glob (v := .int 9223372036854775807) rfl ht ⟨_, rfl⟩) pa_nil))))) pa_nil))))), ?_⟩
    have hw12 : r.w < 12 := by have := hg.w; omega
    refine ⟨_, rfl, by show 2 ≤ sizeLine; decide, fun t ht => ⟨_, t, _, _, _, true, rfl, upd_same, .cons (.ty _) (.cons (.ty _) .nil), tyx_t (s_tup (SameN ht) ha), kit_lt, true, rfl, iteF ?_⟩⟩
    have h1 : Same H (upd H t (.tup [.ty "list", .ty "tuple"])) := SameN ht
    have ha1 := s_tup h1 ha
    have hl1 : r.vals.length = 1 + nm r.w := by
      unfold Rc.vals
      rw [List.length_cons, List.length_map, hg.len]
      omega
    refine ⟨_, rfl, _, _, rfl, .inr ha1, rfl, _, rfl, ite2 (fun hc => ?_) fun _ => ?_⟩
    · have e := of_decide_eq_true hc
      injection e with e
      omega
    refine ⟨_, rfl, a, _, 0, _, rfl, rfl, ha1, at0, _, _, _, _, true, rfl, .ty _, .base (.str _), kit_ty (by decide +kernel), true, rfl, iteF ?_⟩
    refine ⟨_, rfl, a, _, 0, _, rfl, rfl, ha1, at0, _, _, rfl, .inr (hW _), rfl, wds_flat, _, rfl, ?_⟩
    rw [wd_in r.w hw12]
    refine iteF ⟨_, rfl, a, _, 0, _, rfl, rfl, ha1, at0, _, _, 0, _, rfl, rfl, T.wholeT _, at0, rfl, _, rfl, ite2 (fun hc => ?_) fun _ => ?_⟩
    · exact absurd (of_decide_eq_true hc) (wd_not r.w hg.w)
    refine ⟨_, rfl, _, _, rfl, .inr ha1, .inr (.inl ⟨rfl, oW, lW, cW, dW⟩), _, rfl, a, _, 0, _, rfl, rfl, ha1, at0, ?_⟩
    refine ⟨_, wds, wd r.w, r.w, rfl, rfl, hW _, wd_at hw12, wd_new _ hw12, _, _, _, _, rfl, rfl, T.numbers _, nm_at hw12, 1, _, rfl, rfl, rfl, _, rfl, ite2 (fun hc => ?_) fun _ => ?_⟩
    · exact absurd hc (eq_vint (by show ((r.vals.length : Nat) : Int) = 1 + (nm r.w : Int); omega))
    have ec : cutV r.vals (some 1) none = r.ns.map V.int := cut_from _ 1
    refine ⟨_, rfl, 1, rfl, a, _, rfl, ha1, fun z => absurd z.1 (by rw [show (1 : Int) = ((1 : Nat) : Int) from rfl, HT.sIx_nat]; omega), fun _ p np => ?_⟩
    have np : upd H t (.tup [.ty "list", .ty "tuple"]) p = none := np
    rw [ec]
    have s2 := SameN (o := .tup (r.ns.map V.int)) np
    refine ⟨p, rfl, ⟨_, .of upd_same⟩, fun D nD => ?_⟩
    have hn4 := nm_le r.w
    refine lc_plain (walk_tup (K := K) (a := p) (xs := r.ns.map V.int)) (List.replicate r.ns.length (V.bl true)) (by simp) (small1000 (by rw [List.length_map, hg.len]; omega)) nD (fun H' h' => s_tup h' (.of upd_same)) ?_ ?_
    · rintro i x H2 H3 z hi hS hz ⟨rfl, hx⟩ R hR
      rw [List.getElem?_map] at hx
      obtain ⟨k, hk, ek⟩ := Option.map_eq_some_iff.mp hx
      rw [List.getElem?_replicate, if_pos (by simpa using hi)] at hz
      cases hz
      obtain ⟨k1, k2⟩ := hg.ns k (List.mem_of_getElem? hk)
      subst ek
      exact ⟨rfl, _, rfl, k, 0, _, rfl, k1, .inr ⟨_, rfl, k2⟩, hR _ (Same.refl _)⟩
    · intro H2 h2 hD
      refine ⟨D, List.replicate r.ns.length true, rfl, .of (by rw [List.map_replicate]; exact hD), ?_⟩
      rw [all_true]
      exact q _ (h1.trans (s2.trans h2))
def spAreRecs (K : PySem.W.Frag) : Sp := fun vs H Q _ => ∃ (a : Addr) (us : List V) (rs : List Rc), vs = [.ref a] ∧ SqL K H a us ∧ LR (RecR H) us rs ∧ (∀ r ∈ rs, r.good) ∧ rs.length ≤ 1000 ∧ ∀ H', Same H H' → Q (.bl true) H'
theorem ok_are_records (T : Ev K mg) : OkF P w K mg base CX0 4 "are_records" ["value"] (spAreRecs K) := by
  obtain ⟨fd, F, b⟩ := T.ds_are_records
  obtain ⟨fI, GI, bI, kI⟩ := ok_is_record (P := P) (w := w) (base := base) T
  refine ⟨fd, FunD.ok F cs_are_records ?_ ?_, b, F.kp⟩
  · rintro vs H Q E ⟨a, us, rs, rfl, _⟩; rfl
  · rintro cdv A outer s H vs Q E hr ⟨a, us, rs, rfl, ha, hrel, hg, hl, q⟩
    refine ⟨_, pss_one (ps_ret (pe_and (pe_callB call_isiT (by rfl) T.f_isinstance (by decide +kernel) (pa_cons (pv 0) (pa_cons (pe_tup (pa_cons (pe_bltn (v := .ty "list") (by rfl) T.f_list (by decide +kernel) rfl) (pa_cons (pe_bltn (v := .ty "tuple") (by rfl) T.f_tuple (by decide +kernel) rfl) pa_nil))) pa_nil)))
      (pe_one (pe_callB (cr_all rfl) (by rfl) T.f_all (by decide +kernel) (pa_cons
        (pe_lc (own := [("record", 1)]) (g := gName 1) (tt := tYes) rfl cs_are_records.nd (pi_list (pv 0)) (blkOk_by (N := ["value", "record"]) (sc := defScope s_are_records) (by decide +kernel)) (fun _ _ _ _ _ => pg_name (i := 1) cs_are_records.nd rfl (Or.inl rfl)) (fun _ _ _ _ _ => pts_nil)
          (fun _ _ _ _ _ => pe_call GI hr rfl T.g_is_record kI bI .nil pass0 (pa_cons (pv 1) pa_nil))) pa_nil))))), ?_⟩
    refine ⟨_, rfl, by show 2 ≤ sizeLine; decide, fun t ht => ⟨_, t, _, _, _, true, rfl, upd_same, .cons (.ty _) (.cons (.ty _) .nil), tyx_l ((SameN ht).seq ha), kit_ll, true, rfl, iteT ?_⟩⟩
    have s1 := SameN (o := .tup [.ty "list", .ty "tuple"]) ht
    refine ⟨_, rfl, a, rfl, ⟨_, s1.seq ha⟩, fun D nD => ?_⟩
    refine lc_plain (walk_list (K := K) (a := a) (xs := us)) (List.replicate rs.length (V.bl true)) (by rw [List.length_replicate, hrel.1]) (small1000 (by rw [hrel.1]; exact hl)) nD (fun H' h' => h'.seq (s1.seq ha)) ?_ ?_
    · rintro i x H2 H3 z hi hS hz ⟨rfl, hx⟩ R hR
      obtain ⟨r, er, hr2⟩ := lr_at hrel hx
      rw [List.getElem?_replicate, if_pos (by rw [← hrel.1]; exact hi)] at hz
      cases hz
      obtain ⟨aa, rfl, haa⟩ := rec_same (s1.trans hS) _ _ hr2
      exact ⟨rfl, _, rfl, aa, r, rfl, .of haa, hg r (List.mem_of_getElem? er), fun H4 h4 => hR _ h4⟩
    · intro H' hS hD
      refine ⟨D, List.replicate rs.length true, rfl, .of (by rw [List.map_replicate]; exact hD), ?_⟩
      rw [all_true]
      exact q _ (s1.trans hS)
def spMeant (K : PySem.W.Frag) : Sp := fun vs H Q _ => ∃ (p : Addr) (D : Dk) (g : Int) (rs more : List Rc) (B : Nat), vs = [.ref p] ∧ DiskAt K H p D ∧ BkSt D.F g rs more B ∧ B ≤ 900 ∧
  ∀ (H' : Hp) (tp : Addr) (us : List V), Same H H' → H' tp = some (.tup us) → LR (RecR H') us (rs ++ more) → Q (.ref tp) H'
theorem all_len {F : Nat → Int → Int} {g : Int} {rs more : List Rc} {B : Nat} (h : BkSt F g rs more B) : (allRows g rs more).length ≤ B ∧ ∀ r ∈ allRows g rs more, r.ok := by
  unfold allRows
  by_cases hg : g = 0
  · rw [if_pos hg]
    exact ⟨Nat.zero_le _, fun r hr => by simp at hr⟩
  · rw [if_neg hg]
    exact ⟨h.length_le (by have := h.g0; omega), h.mem_ok⟩
theorem ok_meant (T : Ev K mg) : ∃ fd, FnOk P w K mg base CX0 7 (He.ga K "meant") fd ["disk"] (spMeant K) ∧ Binds K fd ["disk"] [] ∧ FnP K "meant" s_meant (He.ga K "meant") fd := by
  obtain ⟨fd, F, b⟩ := T.ds_meant
  obtain ⟨f1, G1, ⟨ds, vds, b1⟩, k1⟩ := ok_need_disk (P := P) (w := w) (base := base) T
  obtain ⟨f2, G2, b2, k2⟩ := ok_counting (P := P) (w := w) (base := base) T
  obtain ⟨f3, G3, b3, k3⟩ := ok_without_whole (P := P) (w := w) (base := base) T
  refine ⟨fd, FunD.ok F cs_meant ?_ ?_, b, F⟩
  · rintro vs H Q E ⟨p, D, g, rs, more, B, rfl, _⟩; rfl
  · rintro cdv A outer s H vs Q E hr ⟨p, D, g, rs, more, B, rfl, h, hb, hB, q⟩
    refine ⟨_, pss_cons (ps_expr (pe_call G1 (hr.mono (by decide)) rfl T.g_need_disk k1 b1 vds pass0 (pa_cons (pv 0) pa_nil)))
      (pss_one (ps_ret (pe_callTy call_tuple_of (by rfl) T.f_tuple (by decide +kernel) (pa_cons (pe_call G3 (hr.mono (by decide)) rfl T.g_without_whole k3 b3 .nil pass0
        (pa_cons (pe_ix ix_tup (pe_call G2 hr rfl T.g_counting k2 b2 .nil pass0 (pa_cons (pv 0) pa_nil)) pe_int (fun _ _ => rfl)) pa_nil)) pa_nil)))), ?_⟩
    refine ⟨_, rfl, p, D, _, rfl, h, _, rfl, p, D, g, rs, more, B, rfl, h, hb, by omega, ?_⟩
    intro H1 tp fl us h1 htp hfl hus
    obtain ⟨l1, l2⟩ := all_len hb
    refine ⟨tp, _, 1, _, rfl, rfl, .of htp, at1, fl, us, _, rfl, .of hfl, hus, l2, by omega, ?_⟩
    intro H2 l us' h2 nl hl hus'
    rw [noWhole_all hb] at hus'
    refine ⟨l, us', rfl, .inl ⟨.of hl, fun t nt => ?_⟩⟩
    have s3 := SameN (o := .tup us') nt
    exact q _ t us' (h1.trans (h2.trans s3)) upd_same (lr_mono hus' (rec_same s3))
end
end PB

/-! books -/
namespace PB
open PySem PySem.Spec PyProof.Rows L2
abbrev fsB (p : Addr) (g a : Int) (Tl : Addr) (n : Int) : List (Str × V) := [("disk", .ref p), ("generation", .int g), ("added", .int a), ("_told", .ref Tl), ("_rows", .int n)]
/-- all but x is as it was -/
def SameX (x : Addr) (H H' : Hp) : Prop := ∀ b o, b ≠ x → H b = some o → H' b = some o
theorem sx_of {x : Addr} {H H' : Hp} (h : Same H H') : SameX x H H' := fun b o _ e => h b o e
theorem sx_trans {x : Addr} {H H1 H2 : Hp} (a : SameX x H H1) (b : SameX x H1 H2) : SameX x H H2 := fun c o n e => b c o n (a c o n e)
theorem sx_upd {x : Addr} {H : Hp} {o : HO} : SameX x H (upd H x o) := fun b u n e => (upd_ne n).trans e
theorem sx_rec {x : Addr} {H H' : Hp} {C dx : Addr} {fs : List (Str × V)} (h : SameX x H H') (hx : H x = some (.ins C dx fs)) : ∀ r v, RecR H r v → RecR H' r v := fun r v ⟨a, h1, h2⟩ => ⟨a, h1, h _ _ (fun z => by rw [z, hx] at h2; cases h2) h2⟩
section
variable
    {P : Program} {w : World} {K : PySem.W.Frag} {mg : Str → Option Value} {base : Heap}
def spBInit (K : PySem.W.Frag) : Sp := fun vs H Q _ => ∃ (x dx p : Addr) (D : Dk) (g : Int) (rs more : List Rc) (B : Nat), vs = [.ref x, .ref p] ∧ H x = some (.ins (He.ga K "Book") dx []) ∧ DiskAt K H p D ∧ BkSt D.F g rs more B ∧ B ≤ 900 ∧
  ∀ (H' : Hp) (Tl : Addr) (us : List V), SameX x H H' → H' x = some (.ins (He.ga K "Book") dx (fsB p g more.length Tl (allRows g rs more).length)) → H' Tl = some (.lst us) → H Tl = none → LR (RecR H') us (rs ++ more) → Q .non H'
theorem ok_binit (T : Ev K mg) : ∃ fd, FnOk P w K mg base CX0 7 (He.ma K (He.ga K "Book") "__init__") fd ["self", "disk"] (spBInit K) ∧ Binds K fd ["self", "disk"] [] ∧ MtP K "__init__" "Book.__init__" sB_init (He.ma K (He.ga K "Book") "__init__") fd := by
  obtain ⟨fd, F, b⟩ := T.dsB_init
  obtain ⟨f1, G1, ⟨ds, vds, b1⟩, k1⟩ := ok_need_disk (P := P) (w := w) (base := base) T
  obtain ⟨f2, G2, b2, k2⟩ := ok_counting (P := P) (w := w) (base := base) T
  obtain ⟨f3, G3, b3, k3⟩ := ok_without_whole (P := P) (w := w) (base := base) T
  refine ⟨fd, FunD.ok F csB_init ?_ ?_, b, F⟩
  · rintro vs H Q E ⟨x, dx, p, D, g, rs, more, B, rfl, _⟩; rfl
  · rintro cdv A outer s H vs Q E hr ⟨x, dx, p, D, g, rs, more, B, rfl, hx, h, hb, hB, q⟩
    refine ⟨_, pss_cons (ps_expr (pe_call G1 (hr.mono (by decide)) rfl T.g_need_disk k1 b1 vds pass0 (pa_cons (pv 1) pa_nil)))
      (pss_cons (ps_asg (pe_call G2 hr rfl T.g_counting k2 b2 .nil pass0 (pa_cons (pv 1) pa_nil)) (pg_tup rfl (pgs_cons (pg_name (i := 2) csB_init.nd rfl (Or.inl rfl)) (pgs_cons (pg_name (i := 3) csB_init.nd rfl (Or.inl rfl)) pgs_nil))))
      (pss_cons (ps_fld (pv 0) (pv 1) rfl) (pss_cons (ps_fld (pv 0) (pv 2) rfl) (pss_cons (ps_fld (pv 0) pe_int rfl)
      (pss_cons (ps_if (pt_cmpR op_gt (pv 2) pe_int (nomark _)) (pss_one (ps_fld (pv 0) (pe_callB call_len_seq (by rfl) T.f_len PySem.boot_len (pa_cons (pe_call G3 (hr.mono (by decide)) rfl T.g_without_whole k3 b3 .nil pass0
        (pa_cons (pe_slice sl_list (pv 3) (po_some (pe_bm PySem.F.plainAttrs_list PySem.F.slot_list_index PySem.F.type_list_index (mt_indexD (hu65 hr)) (pv 3) (pa_cons (pe_glob (v := .ref (He.ga K "WHOLE")) rfl T.g_WHOLE rfl) pa_nil))) po_none) pa_nil)) pa_nil)) rfl)) pss_nil)
      (pss_cons (ps_fld (pv 0) (pe_call G3 (hr.mono (by decide)) rfl T.g_without_whole k3 b3 .nil pass0 (pa_cons (pv 3) pa_nil)) rfl)
      (pss_one (ps_fld (pv 0) (pe_callB call_len_seq (by rfl) T.f_len PySem.boot_len (pa_cons (pv 3) pa_nil)) rfl)))))))), ?_⟩
    obtain ⟨l1, l2⟩ := all_len hb
    refine ⟨_, rfl, p, D, _, rfl, h, _, rfl, p, D, g, rs, more, B, rfl, h, hb, by omega, ?_⟩
    intro H1 tp fl us h1 htp hfl hus
    have hx1 := h1 _ _ hx
    refine ⟨tp, _, rfl, .of htp, rfl, _, _, rfl, _, _, rfl, rfl, ?_⟩
    refine ⟨_, rfl, _, rfl, x, _, _, _, rfl, hx1, T.c_Book, T.nB_disk, by show 0 < 1000; decide, ?_⟩
    refine ⟨_, rfl, _, rfl, x, _, _, _, rfl, upd_same, T.c_Book, T.nB_generation, by show 1 < 1000; decide, ?_⟩
    refine ⟨_, rfl, x, _, _, _, rfl, upd_same, T.c_Book, T.nB_added, by show 2 < 1000; decide, ?_⟩
    rw [upd_upd, upd_upd]
    generalize hH2 : upd H1 x (.ins (He.ga K "Book") dx _) = H2
    have hx2 : H2 x = some (.ins (He.ga K "Book") dx [("disk", .ref p), ("generation", .int g), ("added", .int 0)]) := by rw [← hH2]; exact upd_same
    have s2 : SameX x H1 H2 := by rw [← hH2]; exact sx_upd
    have fx : fl ≠ x := ne_of hfl hx1 (fun z => nomatch z)
    have hfl2 := s2 _ _ fx hfl
    have hus2 := lr_mono hus (sx_rec s2 hx1)
    have rest : ∀ (H3 : Hp), SameX x H2 H3 → H3 x = some (.ins (He.ga K "Book") dx [("disk", .ref p), ("generation", .int g), ("added", .int more.length)]) → (tSeq (sFld K (tVar 0) (tCall (spNoWhole K) [] E0 (tCons (tVar 3) tNil)) "_told") (sFld K (tVar 0) (tCB (fun xs H Q => ∃ p ys, xs = [.ref p] ∧ (SqL K H p ys ∨ SqT K H p ys) ∧ Q (.int ys.length) H) (tCons (tVar 3) tNil)) "_rows")) { nx := fun _ H' => Q .non H', rt := Q } [some (.ref x), some (.ref p), some (.int g), some (.ref fl)] H3 := by
      intro H3 s3 hx3
      have hfl3 := s3 _ _ fx hfl2
      have hus3 := lr_mono hus2 (sx_rec s3 hx2)
      refine ⟨_, rfl, fl, us, _, rfl, .of hfl3, hus3, l2, by omega, ?_⟩
      intro H4 Tl us' h4 nT hT hus'
      rw [noWhole_all hb] at hus'
      refine ⟨_, rfl, x, _, _, _, rfl, h4 _ _ hx3, T.c_Book, T.nB_told, by show 3 < 1000; decide, ?_⟩
      have tx : Tl ≠ x := fun z => by rw [z, hx3] at nT; cases nT
      have fl4 : upd H4 x (.ins (He.ga K "Book") dx (putF "_told" (.ref Tl) [("disk", .ref p), ("generation", .int g), ("added", .int more.length)])) fl = some (.lst us) := (upd_ne fx).trans (h4 _ _ hfl3)
      refine ⟨_, rfl, fl, us, rfl, .inl (.of fl4), _, rfl, x, _, _, _, rfl, upd_same, T.c_Book, T.nB_rows, by show 4 < 1000; decide, ?_⟩
      rw [upd_upd]
      have sF : SameX x H4 (upd H4 x (.ins (He.ga K "Book") dx (fsB p g more.length Tl (us.length : Nat)))) := sx_upd
      refine q _ Tl us' (sx_trans (sx_of h1) (sx_trans s2 (sx_trans s3 (sx_trans (sx_of h4) sF)))) ?_ ((upd_ne tx).trans hT) ?_ (lr_mono hus' (sx_rec sF (h4 _ _ hx3)))
      · refine upd_same.trans ?_
        rw [hus.1]
        rfl
      · cases e : H Tl with
        | none => rfl
        | some o =>
          have := s3 _ _ tx (s2 _ _ tx (h1 _ _ e))
          rw [this] at nT
          cases nT
    refine ⟨_, rfl, g, 0, rfl, rfl, _, rfl, ite2 (fun hc => ?_) fun hc => ?_⟩
    · have hg : 0 < g := of_decide_eq_true hc
      have eall : allRows g rs more = rs ++ whole :: more := by
        unfold allRows
        rw [if_neg (by omega)]
      rw [eall] at hus2 l1 l2
      have hds : ((rs ++ whole :: more).map Rc.dat)[rs.length]? = some whole.dat := by
        rw [List.getElem?_map, List.getElem?_append_right (Nat.le_refl _), Nat.sub_self]
        rfl
      refine ⟨_, rfl, _, rfl, .inl ⟨rfl, _, .of hfl2⟩, fl, _, whole.dat, _, rs.length, whole.dat, rfl, rfl, .lst (.of hfl2) (dp_recs hus2), dp_rec (T.wholeT _), dats_shaped _, dat_shaped _, hds, ?_, ?_, ?_⟩
      · rw [dat_eqv whole_ok whole_ok]
        exact decide_eq_true rfl
      · intro m z' hm hz
        rw [List.getElem?_map, List.getElem?_append_left hm] at hz
        obtain ⟨r, er, rfl⟩ := Option.map_eq_some_iff.mp hz
        have hgood := hb.good r (List.mem_append_left _ (List.mem_of_getElem? er))
        rw [dat_eqv hgood.ok whole_ok]
        exact decide_eq_false hgood.ne
      refine ⟨_, rfl, fl, us, rfl, .of hfl2, fun l nl => ?_⟩
      have ec : cutV us (some (rs.length : Int)) none = us.drop rs.length := cut_from _ _
      rw [ec]
      have sl := SameN (o := .lst (us.drop rs.length)) nl
      have hdr : LR (RecR (upd H2 l (.lst (us.drop rs.length)))) (us.drop rs.length) (whole :: more) := by
        have := lr_mono (lr_drop hus2 rs.length) (rec_same sl)
        rw [List.drop_left] at this
        exact this
      refine ⟨l, _, _, rfl, .of upd_same, hdr, fun r hr => l2 r (List.mem_append_right _ hr), by rw [List.length_append] at l1; omega, ?_⟩
      intro H3 l' us' h3 nl' hl' hus'
      have emore : noWhole (whole :: more) = more := by
        have := noWhole_good fun r hr => hb.good r (List.mem_append_right rs hr)
        unfold noWhole at this ⊢
        rw [List.filter_cons_of_neg (by simp), this]
      rw [emore] at hus'
      refine ⟨l', us', rfl, .inl (.of hl'), _, rfl, x, _, _, _, rfl, h3 _ _ (sl _ _ hx2), T.c_Book, T.nB_added, by show 3 < 1000; decide, ?_⟩
      rw [hus'.1]
      exact rest _ (sx_trans (sx_of (sl.trans h3)) sx_upd) upd_same
    · have hg : g = 0 := by
        have : ¬ (0 < g) := fun z => hc (decide_eq_true z)
        have := hb.g0
        omega
      have em : more = [] := (hb.zero hg).2
      refine rest H2 (fun b o _ e => e) ?_
      rw [hx2, em]
      rfl
end
end PB

namespace PB
open PySem PySem.Spec PyProof.Rows L2
theorem stp_not {A B : Addr → Prop} {H H' : Hp} {b : Addr} {o : HO} (s : Stp A B H H') (e : H b = some o) (n : ¬ A b) : ¬ B b := fun f => by
  rcases s.new b f with q | q
  · exact n q
  · rw [q] at e; cases e
theorem stp_or {A B C : Addr → Prop} {H H' : Hp} (s : Stp A B H H') : Stp (fun x => C x ∨ A x) (fun x => C x ∨ B x) H H' :=
  ⟨fun b o e n => s.keep b o e fun z => n (.inr z), fun b f => by
    rcases f with f | f
    · exact .inl (.inl f)
    · rcases s.new b f with q | q
      · exact .inl (.inr q)
      · exact .inr q, s.tup⟩
/-- the numbers of a record fit a cell -/
def Rc.fit (r : Rc) : Prop := ∀ n ∈ r.ns, 0 ≤ n ∧ n ≤ 9223372036854775807
theorem cells_fit {r : Rc} (h : r.ok) (f : r.fit) : ∀ n ∈ r.cells, 0 ≤ n ∧ n ≤ 9223372036854775807 := by
  intro n hn
  unfold Rc.cells at hn
  rcases List.mem_cons.mp hn with e | e
  · have := h.1
    omega
  · rcases List.mem_append.mp e with e | e
    · exact f n e
    · rw [List.eq_of_mem_replicate e]
      omega
section
variable
    {P : Program} {w : World} {K : PySem.W.Frag} {mg : Str → Option Value} {base : Heap}
def spBWrite (K : PySem.W.Frag) : Sp := fun vs H Q E => ∃ (b dx p a Tl : Addr) (D : Dk) (g ad : Int) (k : Nat) (r : Rc), vs = [.ref b, .ref a] ∧ H b = some (.ins (He.ga K "Book") dx (fsB p g ad Tl k)) ∧ DiskAt K H p D ∧ D.ss = [] ∧ ¬ foot p D b ∧ SqT K H a r.vals ∧ r.ok ∧ r.fit ∧
  0 ≤ g ∧ g ≤ 1000 ∧ k ≤ 1000 ∧ D.N + 6 ≤ 100000 ∧
  (∀ (H' : Hp) (D' : Dk), DiskAt K H' p D' → D'.ss = [] → D'.N = D.N + 6 → Full D.F D'.F (tk g) k r g → H' b = some (.ins (He.ga K "Book") dx (fsB p g ad Tl ((k + 1 : Nat) : Int))) → ¬ foot p D' b →
    Stp (fun x => x = b ∨ foot p D x) (fun x => x = b ∨ foot p D' x) H H' → Q .non H') ∧
  ∀ (H' : Hp) (D' : Dk), DiskAt K H' p D' → D'.ss.length ≤ 5 → D'.N ≤ D.N + 6 → (∀ F', May D'.F D'.ss F' → Torn D.F F' (tk g) k r g) → ¬ foot p D' b → Stp (fun x => x = b ∨ foot p D x) (fun x => x = b ∨ foot p D' x) H H' → OutE K E H'
theorem ok_bwrite (T : Ev K mg) : OkM P w K mg base (L2.CX P w) 6 "Book" "_write" ["self", "record"] (spBWrite K) := by
  obtain ⟨fd, F, bb⟩ := T.dsB_write
  obtain ⟨f1, G1, b1, k1⟩ := ok_track_of (P := P) (w := w) (base := base) T
  obtain ⟨f2, G2, b2, k2⟩ := ok_row_of (P := P) (w := w) (base := base) T
  obtain ⟨f3, G3, b3⟩ := ok_write (P := P) (w := w) (base := base) T
  obtain ⟨f4, G4, b4⟩ := ok_flush (P := P) (w := w) (base := base) T
  obtain ⟨t6, h6⟩ := T.i_CELLS
  refine ⟨fd, FunD.ok F csB_write ?_ ?_, bb⟩
  · rintro vs H Q E ⟨b, dx, p, a, Tl, D, g, ad, k, r, rfl, _⟩; rfl
  · rintro cdv A outer s H vs Q E hr ⟨b, dx, p, a, Tl, D, g, ad, k, r, rfl, hb, h, hss, nb, ha, hok, hfit, hg0, hg, hk, hN, q, qE⟩
    refine ⟨_, pss_cons (ps_par (i := 2) (j := 3) (by rfl) csB_write.nd rfl rfl (by decide) rfl rfl (pa_cons (pe_call G1 (hr.mono (by decide)) rfl T.g_track_of k1 b1 .nil pass0 (pa_cons (pe_fld (pv 0) rfl) pa_nil)) (pa_cons (pe_op op_mul (pe_glob (v := .int 6) rfl h6 ⟨_, rfl⟩) (pe_fld (pv 0) rfl)) pa_nil)) (by rfl))
      (pss_cons (ps_set (i := 4) csB_write.nd rfl (Or.inl rfl) (pe_call G2 (hr.mono (by decide)) rfl T.g_row_of k2 b2 .nil pass0 (pa_cons (pv 1) (pa_cons (pe_fld (pv 0) rfl) pa_nil))))
      (pss_cons (ps_expr (pe_meth (pe_fld (pv 0) rfl) T.c_Disk T.mD_write G3 hr b3 .nil (passes_call (takes_of rfl rfl rfl rfl) fun _ _ _ _ h => h) (pa_cons (pv 2) (pa_cons (pe_op op_add (pv 3) pe_int) (pa_cons (pe_slice sl_tupA (pv 4) (po_some pe_int) po_none) pa_nil)))))
      (pss_cons (ps_expr (pe_meth0 (pe_fld (pv 0) rfl) T.c_Disk T.mD_flush G4 (hr.mono (by decide)) b4 .nil (passes_call (takes_of rfl rfl rfl rfl) fun _ _ _ _ h => h)))
      (pss_cons (ps_expr (pe_meth (pe_fld (pv 0) rfl) T.c_Disk T.mD_write G3 hr b3 .nil (passes_call (takes_of rfl rfl rfl rfl) fun _ _ _ _ h => h) (pa_cons (pv 2) (pa_cons (pv 3) (pa_cons (pe_slice sl_tupA (pv 4) po_none (po_some pe_int)) pa_nil)))))
      (pss_cons (ps_expr (pe_meth0 (pe_fld (pv 0) rfl) T.c_Disk T.mD_flush G4 (hr.mono (by decide)) b4 .nil (passes_call (takes_of rfl rfl rfl rfl) fun _ _ _ _ h => h)))
      (pss_one (ps_fld (pv 0) (pe_op op_add (pe_fld (pv 0) rfl) pe_int) rfl))))))), ?_⟩
    have hcl := hok.len
    have hfit2 := cells_fit hok hfit
    have htk : tk g < 3 := by rcases tk_cases g with e | e <;> omega
    refine ⟨_, rfl, b, _, _, _, _, rfl, hb, T.c_Book, T.nB_generation, rfl, g, rfl, ?_⟩
    refine ⟨_, rfl, b, _, _, _, _, rfl, hb, T.c_Book, T.nB_rows, rfl, 6, (k : Int), rfl, rfl, .inl ⟨by decide, by decide⟩, _, _, rfl, ?_⟩
    refine ⟨_, rfl, _, rfl, b, _, _, _, _, rfl, hb, T.c_Book, T.nB_generation, rfl, a, g, r, rfl, ha, hok, ?_⟩
    intro H1 rw_ h1 hrw
    have hb1 := h1 _ _ hb
    have hd1 := h.same h1
    refine ⟨_, rfl, b, _, _, _, _, rfl, hb1, T.c_Book, T.nB_disk, rfl, p, _, _, rfl, hd1.obj, rfl, ?_⟩
    refine ⟨_, rfl, _, rfl, (6 * (k : Int)), 1, rfl, rfl, _, rfl, 1, rfl, rw_, _, rfl, .of hrw, fun z => absurd z.1 (by rw [show (1 : Int) = ((1 : Nat) : Int) from rfl, HT.sIx_nat]; rw [List.length_map, List.length_cons]; omega), fun _ c1 nc1 => ?_⟩
    have ec : cutV ((g :: r.cells).map V.int) (some 1) none = r.cells.map V.int := cut_from _ 1
    rw [ec]
    have nc1 : H1 c1 = none := nc1
    have s2 := SameN (o := .tup (r.cells.map V.int)) nc1
    have hd2 := hd1.same s2
    have nb2 : ¬ foot p D b := nb
    refine ⟨p, D, tk g, 6 * (k : Int) + 1, c1, r.cells, rfl, hd2, htk, by omega, by omega, .of upd_same, hfit2, by rw [hss, hcl]; decide, ?_, ?_⟩
    rotate_left
    · intro H' D' pre hd' eF ess hpre hpl eN st
      have hs : Stp (foot p D) (foot p D') H H' := (stp_same (h1.trans s2)).trans st
      rw [hss, List.nil_append] at ess
      refine qE H' D' hd' ?_ (by omega) ?_ (stp_not hs hb nb) (stp_or hs)
      · rw [ess]; rw [hcl] at hpl; exact hpl
      · intro F' hm
        rw [eF] at hm
        exact torn_cells hok (fun s hs => hpre s (ess ▸ hs)) hm
    intro H3 D3 hd3 eF3 ess3 eN3 st3
    have hs3 : Stp (foot p D) (foot p D3) H H3 := (stp_same (h1.trans s2)).trans st3
    rw [hss, List.nil_append] at ess3
    have hb3 := hs3.keep _ _ hb nb
    refine ⟨_, rfl, b, _, _, _, _, rfl, hb3, T.c_Book, T.nB_disk, rfl, p, _, _, rfl, hd3.obj, rfl, p, D3, rfl, hd3, by rw [ess3, stks_length, hcl]; omega, ?_, ?_⟩
    rotate_left
    · refine qE H3 D3 hd3 (by rw [ess3, stks_length, hcl]; exact Nat.le_refl _) (by omega) ?_ (stp_not hs3 hb nb) (stp_or hs3)
      intro F' hm
      rw [eF3] at hm
      exact torn_cells hok (fun s hs => ess3 ▸ hs) hm
    intro H4 D4 hd4 eF4 ess4 eN4 st4
    have hs4 := hs3.trans st4
    have hb4 := hs4.keep _ _ hb nb
    have hrw4 := st4.tup _ _ (st3.tup _ _ (s2 _ _ hrw))
    have eF4' : D4.F = land D.F (stks (tk g) (6 * (k : Int) + 1) r.cells) := by rw [eF4, eF3, ess3]
    refine ⟨_, rfl, b, _, _, _, _, rfl, hb4, T.c_Book, T.nB_disk, rfl, p, _, _, rfl, hd4.obj, rfl, ?_⟩
    refine ⟨_, rfl, _, rfl, _, rfl, 1, rfl, rw_, _, rfl, .of hrw4, fun z => absurd z.2 (by rw [show (1 : Int) = ((1 : Nat) : Int) from rfl, HT.sIx_nat]; rw [List.length_map, List.length_cons, hcl]; decide), fun _ c2 nc2 => ?_⟩
    have ec2 : cutV ((g :: r.cells).map V.int) none (some 1) = [g].map V.int := cut_to _ 1
    rw [ec2]
    have nc2 : H4 c2 = none := nc2
    have s5 := SameN (o := .tup ([g].map V.int)) nc2
    have hd5 := hd4.same s5
    refine ⟨p, D4, tk g, 6 * (k : Int), c2, [g], rfl, hd5, htk, by omega, by omega, .of upd_same, fun n hn => by rw [List.mem_singleton.mp hn]; omega, by rw [ess4]; show 1 ≤ 1000; decide, ?_, ?_⟩
    rotate_left
    · intro H' D' pre hd' eF ess hpre hpl eN st
      have hs : Stp (foot p D) (foot p D') H H' := hs4.trans ((stp_same s5).trans st)
      rw [ess4, List.nil_append] at ess
      refine qE H' D' hd' ?_ (by rw [eN, eN4, eN3, ess3, stks_length, hcl]; omega) ?_ (stp_not hs hb nb) (stp_or hs)
      · rw [ess]; exact Nat.le_trans hpl (by show 1 ≤ 5; decide)
      · intro F' hm
        rw [eF, eF4'] at hm
        exact torn_mark hok (fun s hs => List.mem_singleton.mp (hpre s (ess ▸ hs))) hm
    intro H6 D6 hd6 eF6 ess6 eN6 st6
    have hs6 : Stp (foot p D) (foot p D6) H H6 := hs4.trans ((stp_same s5).trans st6)
    rw [ess4, List.nil_append] at ess6
    have hb6 := hs6.keep _ _ hb nb
    have eN6' : D6.N = D.N + 5 := by rw [eN6, eN4, eN3, ess3, stks_length, hcl]
    refine ⟨_, rfl, b, _, _, _, _, rfl, hb6, T.c_Book, T.nB_disk, rfl, p, _, _, rfl, hd6.obj, rfl, p, D6, rfl, hd6, by rw [ess6]; show D6.N + 1 ≤ 100000; omega, ?_, ?_⟩
    rotate_left
    · refine qE H6 D6 hd6 (by rw [ess6]; show 1 ≤ 5; decide) (by omega) ?_ (stp_not hs6 hb nb) (stp_or hs6)
      intro F' hm
      rw [eF6, eF4', ess6] at hm
      exact torn_mark hok (fun s hs => List.mem_singleton.mp hs) hm
    intro H7 D7 hd7 eF7 ess7 eN7 st7
    have hs7 := hs6.trans st7
    have hb7 := hs7.keep _ _ hb nb
    have nb7 := stp_not hs7 hb nb
    refine ⟨_, rfl, b, _, _, _, _, rfl, hb7, T.c_Book, T.nB_rows, rfl, (k : Int), 1, rfl, rfl, _, rfl, b, _, _, _, rfl, hb7, T.c_Book, T.nB_rows, by show 5 < 1000; decide, ?_⟩
    have sF : Stp (fun x => x = b ∨ foot p D7 x) (fun x => x = b ∨ foot p D7 x) H7 (upd H7 b (.ins (He.ga K "Book") dx (fsB p g ad Tl ((k : Int) + 1)))) := stp_upd (.inl rfl) hb7 fun _ z => nomatch z
    refine q _ D7 ?_ ess7 (by rw [eN7, ess6, eN6']; rfl) ?_ upd_same nb7 ((stp_or hs7).trans sF)
    · refine hd7.keep (fun x o f e => ?_) sF.tup
      exact (upd_ne (fun z => nb7 (by rw [← z]; exact f))).trans e
    · have e1 : D7.F = land1 (land D.F (stks (tk g) (6 * (k : Int) + 1) r.cells)) (tk g, 6 * (k : Int), g) := by
        rw [eF7, eF6, eF4', ess6]
        rfl
      rw [e1]
      exact full_mark hok
end
end PB

/-! records, add, _next -/
namespace PB
open PySem PySem.Spec PyProof.Rows L2
structure BookAt (K : PySem.W.Frag) (H : Hp) (b dx p Tl : Addr) (us : List V) (g : Int) (rs more : List Rc) : Prop where
  obj : H b = some (.ins (He.ga K "Book") dx (fsB p g more.length Tl (allRows g rs more).length))
  tl : H Tl = some (.lst us)
  rel : LR (RecR H) us (rs ++ more)
/-- a disk and its book -/
structure Sys (K : PySem.W.Frag) (H : Hp) (p : Addr) (D : Dk) (b dx Tl : Addr) (us : List V) (g : Int) (rs more : List Rc) (B : Nat) : Prop where
  dk : DiskAt K H p D
  em : D.ss = []
  st : BkSt D.F g rs more B
  bk : BookAt K H b dx p Tl us g rs more
  nb : ¬ foot p D b
  nt : ¬ foot p D Tl
def footS (b Tl p : Addr) (D : Dk) (x : Addr) : Prop := (x = b ∨ x = Tl) ∨ foot p D x
theorem BookAt.same {K : PySem.W.Frag} {H H' : Hp} {b dx p Tl : Addr} {us : List V} {g : Int} {rs more : List Rc} (h : BookAt K H b dx p Tl us g rs more) (e : Same H H') : BookAt K H' b dx p Tl us g rs more := ⟨e _ _ h.obj, e _ _ h.tl, lr_mono h.rel (rec_same e)⟩
theorem Sys.same {K : PySem.W.Frag} {H H' : Hp} {p b dx Tl : Addr} {D : Dk} {us : List V} {g : Int} {rs more : List Rc} {B : Nat} (h : Sys K H p D b dx Tl us g rs more B) (e : Same H H') : Sys K H' p D b dx Tl us g rs more B :=
  ⟨h.dk.same e, h.em, h.st, h.bk.same e, h.nb, h.nt⟩
theorem BkSt.gB {F : Nat → Int → Int} {g : Int} {rs more : List Rc} {B : Nat} (h : BkSt F g rs more B) : g ≤ B := by
  by_cases hg : 0 < g
  · have := (h.trk _ (tk_cases g)).mx
    rw [h.at0 hg] at this
    exact this
  · omega
theorem stp_sub {A B A' B' : Addr → Prop} {H H' : Hp} (s : Stp A B H H') (ha : ∀ x, A x → A' x) (hb : ∀ x, B' x → B x ∨ A' x) : Stp A' B' H H' :=
  ⟨fun b o e n => s.keep b o e fun z => n (ha b z), fun b f => by
    rcases hb b f with q | q
    · rcases s.new b q with z | z
      · exact .inl (ha b z)
      · exact .inr z
    · exact .inl q, s.tup⟩
section
variable
    {P : Program} {w : World} {K : PySem.W.Frag} {mg : Str → Option Value} {base : Heap}
def spRecs (K : PySem.W.Frag) : Sp := fun vs H Q _ => ∃ (b dx p Tl : Addr) (us : List V) (g : Int) (rs more : List Rc), vs = [.ref b] ∧ BookAt K H b dx p Tl us g rs more ∧ ∀ (H' : Hp) (tp : Addr), Same H H' → H' tp = some (.tup us) → Q (.ref tp) H'
theorem ok_records (T : Ev K mg) : OkM P w K mg base CX0 1 "Book" "records" ["self"] (spRecs K) := by
  obtain ⟨fd, F, b⟩ := T.dsB_records
  refine ⟨fd, FunD.ok F csB_records ?_ ?_, b⟩
  · rintro vs H Q E ⟨b, dx, p, Tl, us, g, rs, more, rfl, _⟩; rfl
  · rintro cdv A outer s H vs Q E hr ⟨b, dx, p, Tl, us, g, rs, more, rfl, h, q⟩
    refine ⟨_, pss_one (ps_ret (pe_callTy call_tuple_of (by rfl) T.f_tuple (by decide +kernel) (pa_cons (pe_fld (pv 0) rfl) pa_nil))), ?_⟩
    exact ⟨_, rfl, b, _, _, _, _, rfl, h.obj, T.c_Book, T.nB_told, rfl, Tl, _, rfl, .inl ⟨.of h.tl, fun tp np => q _ tp (SameN np) upd_same⟩⟩
def spAdd (K : PySem.W.Frag) : Sp := fun vs H Q E => ∃ (b dx p a Tl : Addr) (D : Dk) (us : List V) (g : Int) (rs more : List Rc) (B : Nat) (r : Rc), vs = [.ref b, .ref a] ∧ Sys K H p D b dx Tl us g rs more B ∧ 0 < g ∧ B ≤ 800 ∧ D.N + 6 ≤ 100000 ∧ H a = some (.tup r.vals) ∧ r.good ∧
  us.length ≤ 1000 ∧
  (∀ (H' : Hp) (D' : Dk) (us' : List V), Sys K H' p D' b dx Tl us' g rs (more ++ [r]) (B + 1) → D'.N ≤ D.N + 6 → Stp (footS b Tl p D) (footS b Tl p D') H H' → Q .non H') ∧
  ∀ (H' : Hp) (D' : Dk), DiskAt K H' p D' → D'.ss.length ≤ 5 → D'.N ≤ D.N + 6 → (∀ F', May D'.F D'.ss F' → BkSt F' g rs more (B + 1) ∨ BkSt F' g rs (more ++ [r]) (B + 1)) → Stp (footS b Tl p D) (footS b Tl p D') H H' → OutE K E H'
theorem ok_add (T : Ev K mg) : ∃ fd, FnOk P w K mg base (L2.CX P w) 7 (He.ma K (He.ga K "Book") "add") fd ["self", "record"] (spAdd K) ∧ MtP K "add" "Book.add" sB_add (He.ma K (He.ga K "Book") "add") fd := by
  obtain ⟨fd, F, bb⟩ := T.dsB_add
  obtain ⟨f1, G1, b1, k1⟩ := ok_is_record (P := P) (w := w) (base := base) T
  obtain ⟨f2, G2, b2⟩ := ok_bwrite (P := P) (w := w) (base := base) T
  refine ⟨fd, FunD.ok F csB_add ?_ ?_, F⟩
  · rintro vs H Q E ⟨b, dx, p, a, Tl, D, us, g, rs, more, B, r, rfl, _⟩; rfl
  · rintro cdv A outer s H vs Q E hr ⟨b, dx, p, a, Tl, D, us, g, rs, more, B, r, rfl, h, hg, hB, hN, ha, hgood, hul, q, qE⟩
    refine ⟨_, pss_cons (ps_if (pt_not (pt_val (pe_call G1 (hr.mono (by decide)) rfl T.g_is_record k1 b1 .nil pass0 (pa_cons (pv 1) pa_nil)))) (pss_one ps_never) pss_nil)
      (pss_cons (ps_if (pt_cmpR op_eq (pe_fld (pv 0) rfl) pe_int (nomark _)) (pss_one ps_never) pss_nil)
      (pss_cons (ps_expr (pe_meth (pv 0) T.c_Book T.mB_write G2 hr b2 .nil (passes_call (takes_of rfl rfl rfl rfl) fun _ _ _ _ h => h) (pa_cons (pe_callTy call_tuple_of (by rfl) T.f_tuple (by decide +kernel) (pa_cons (pv 1) pa_nil)) pa_nil)))
      (pss_cons (ps_expr (pe_bm PySem.F.plainAttrs_list PySem.F.slot_list_append PySem.F.type_list_append mt_append (pe_fld (pv 0) rfl) (pa_cons (pe_callTy call_tuple_of (by rfl) T.f_tuple (by decide +kernel) (pa_cons (pv 1) pa_nil)) pa_nil)))
      (pss_one (ps_fld (pv 0) (pe_op op_add (pe_fld (pv 0) rfl) pe_int) rfl))))), ?_⟩
    have hgB := h.st.gB
    have hlen := h.st.length_le hg
    have eall : allRows g rs more = rs ++ whole :: more := by
      unfold allRows
      rw [if_neg (by omega)]
    refine ⟨_, rfl, a, r, rfl, .of ha, hgood, fun H1 h1 => ⟨true, rfl, iteF ?_⟩⟩
    have hs1 := h.same h1
    have ha1 := h1 _ _ ha
    refine ⟨_, rfl, b, _, _, _, _, rfl, hs1.bk.obj, T.c_Book, T.nB_generation, rfl, rfl, _, rfl, ite2 (fun hc => ?_) fun _ => ?_⟩
    · have e := of_decide_eq_true hc
      injection e with e
      omega
    have hb1 : H1 b = some (.ins (He.ga K "Book") dx (fsB p g more.length Tl ((rs ++ whole :: more).length : Nat))) := by rw [← eall]; exact hs1.bk.obj
    refine ⟨_, rfl, b, _, _, rfl, hs1.bk.obj, rfl, _, rfl, a, _, rfl, .inr ⟨.of ha1, ?_⟩⟩
    refine ⟨b, dx, p, a, Tl, D, g, more.length, (rs ++ whole :: more).length, r, rfl, hb1, hs1.dk, h.em, h.nb, .of ha1, hgood.ok, hgood.ns, by omega, by omega, by omega, hN, ?_, ?_⟩
    rotate_left
    · intro H' D' hd' hss eN hF nb' st
      refine qE H' D' hd' hss eN (fun F' hm => h.st.add_torn hg hgood (hF F' hm)) ((stp_same h1).trans (stp_sub st (fun x hx => ?_) fun x hx => ?_))
      · rcases hx with hx | hx
        · exact .inl (.inl hx)
        · exact .inr hx
      · rcases hx with hx | hx
        · exact .inr (.inl hx)
        · exact .inl (.inr hx)
    intro H2 D2 hd2 hss2 eN2 hF2 hb2 nb2 st2
    have st2' : Stp (footS b Tl p D) (footS b Tl p D2) H H2 := (stp_same h1).trans (stp_sub st2 (fun x hx => by
        rcases hx with hx | hx
        · exact .inl (.inl hx)
        · exact .inr hx) fun x hx => by
        rcases hx with hx | hx
        · exact .inr (.inl hx)
        · exact .inl (.inr hx))
    have bT : Tl ≠ b := ne_of hs1.bk.tl hs1.bk.obj (fun z => nomatch z)
    have nT0 : ¬ (Tl = b ∨ foot p D Tl) := fun z => z.elim bT h.nt
    have hT2 : H2 Tl = some (.lst us) := st2.keep _ _ hs1.bk.tl nT0
    have nT2 : ¬ foot p D2 Tl := fun z => stp_not st2 hs1.bk.tl nT0 (.inr z)
    have ha2 := st2.tup _ _ ha1
    refine ⟨_, rfl, b, _, _, _, _, rfl, hb2, T.c_Book, T.nB_told, rfl, .inl ⟨rfl, _, .of hT2⟩, _, rfl, a, _, rfl, .inr ⟨.of ha2, ?_⟩⟩
    refine ⟨Tl, us, _, rfl, rfl, hT2, small1000 hul, ?_⟩
    generalize hH3 : upd H2 Tl (.lst (us ++ [.ref a])) = H3
    have st3 : Stp (footS b Tl p D2) (footS b Tl p D2) H2 H3 := by
      rw [← hH3]
      exact stp_upd (.inl (.inr rfl)) hT2 fun _ z => nomatch z
    have hb3 : H3 b = some (.ins (He.ga K "Book") dx (fsB p g more.length Tl (((rs ++ whole :: more).length + 1 : Nat) : Int))) := by
      rw [← hH3, upd_ne bT.symm]
      exact hb2
    have hd3 : DiskAt K H3 p D2 := hd2.keep (fun x o f e => by
      rw [← hH3, upd_ne (fun z => nT2 (by rw [← z]; exact f))]
      exact e) st3.tup
    have hT3 : H3 Tl = some (.lst (us ++ [.ref a])) := by rw [← hH3]; exact upd_same
    refine ⟨_, rfl, b, _, _, _, _, rfl, hb3, T.c_Book, T.nB_added, rfl, _, 1, rfl, rfl, _, rfl, b, _, _, _, rfl, hb3, T.c_Book, T.nB_added, by show 5 < 1000; decide, ?_⟩
    have st4 : Stp (footS b Tl p D2) (footS b Tl p D2) H3 (upd H3 b (.ins (He.ga K "Book") dx (fsB p g ((more.length : Int) + 1) Tl (((rs ++ whole :: more).length + 1 : Nat) : Int)))) := stp_upd (.inl (.inl rfl)) hb3 fun _ z => nomatch z
    have st24 := st3.trans st4
    refine q _ D2 (us ++ [.ref a]) ⟨?_, hss2, h.st.add_full hg hgood hF2, ⟨?_, (upd_ne bT).trans hT3, ?_⟩, nb2, nT2⟩ (by omega) (st2'.trans st24)
    · exact hd3.keep (fun x o f e => (upd_ne (fun z => nb2 (by rw [← z]; exact f))).trans e) st4.tup
    · refine upd_same.trans ?_
      have e1 : allRows g rs (more ++ [r]) = rs ++ whole :: (more ++ [r]) := by
        unfold allRows
        rw [if_neg (by omega)]
      rw [e1]
      have e2 : ((more ++ [r]).length : Int) = (more.length : Int) + 1 := by simp
      have e3 : (rs ++ whole :: (more ++ [r])).length = (rs ++ whole :: more).length + 1 := by simp; omega
      rw [e2, e3]
      rfl
    · rw [← List.append_assoc]
      exact lr_snoc (lr_mono hs1.bk.rel fun r' v hv => rec_stp st4 _ _ (rec_stp st3 _ _ (rec_stp st2 _ _ hv))) ⟨a, rfl, st4.tup _ _ (st3.tup _ _ ha2)⟩
def spNext (K : PySem.W.Frag) : Sp := fun vs H Q _ => ∃ (b dx p Tl : Addr) (D : Dk) (g ad n : Int) (B : Nat), vs = [.ref b] ∧ H b = some (.ins (He.ga K "Book") dx (fsB p g ad Tl n)) ∧ DiskAt K H p D ∧ D.ss = [] ∧ D.F 1 0 ≤ B ∧ D.F 2 0 ≤ B ∧
  ∀ (H' : Hp) (g' : Int), Same H H' → D.F 1 0 < g' → D.F 2 0 < g' → (0 < g → tk g' ≠ tk g) → g' ≤ B + 2 → Q (.int g') H'
theorem ok_next (T : Ev K mg) : OkM P w K mg base CX0 6 "Book" "_next" ["self"] (spNext K) := by
  obtain ⟨fd, F, bb⟩ := T.dsB_next
  obtain ⟨f1, G1, b1⟩ := ok_read (P := P) (w := w) (base := base) T
  obtain ⟨f2, G2, b2, k2⟩ := ok_track_of (P := P) (w := w) (base := base) T
  refine ⟨fd, FunD.ok F csB_next ?_ ?_, bb⟩
  · rintro vs H Q E ⟨b, dx, p, Tl, D, g, ad, n, B, rfl, _⟩; rfl
  · rintro cdv A outer s H vs Q E hr ⟨b, dx, p, Tl, D, g, ad, n, B, rfl, hb, h, hss, hm1, hm2, q⟩
    refine ⟨_, pss_cons (ps_set (i := 1) csB_next.nd rfl (Or.inl rfl) (pe_op op_add pe_int (pe_callB (cr_max rfl) (by rfl) T.f_max (by decide +kernel) (pa_cons
        (pe_lc (own := [("track", 3)]) (g := gName 3) (tt := tYes) (te := tOp (rIxT K) (tMeth (He.ga K "Disk") "read" (spRead K) [] E0 (tFld K (tVar 0) "disk") (tCons (tVar 3) (tCons (tC (.int 0)) (tCons (tC (.int 1)) tNil)))) (tC (.int 0))) rfl csB_next.nd (pi_tup (pe_glob (v := .ref (He.ga K "BOOK_TRACKS")) rfl T.g_BOOK_TRACKS rfl)) (blkOk_by (N := ["self", "least", "is_same", "track"]) (sc := defScope sB_next) (by decide +kernel)) (fun _ _ _ _ _ => pg_name (i := 3) csB_next.nd rfl (Or.inl rfl)) (fun _ _ _ _ _ => pts_nil)
          (fun _ _ _ _ _ => pe_ix ix_tup (pe_meth (pe_fld (pv 0) rfl) T.c_Disk T.mD_read G1 hr b1 .nil pass0 (pa_cons (pv 3) (pa_cons pe_int (pa_cons pe_int pa_nil)))) pe_int (fun _ _ => rfl))) pa_nil))))
      (pss_cons (ps_set (i := 2) csB_next.nd rfl (Or.inl rfl) (pe_and (pe_cmp (pc_gt (pe_fld (pv 0) rfl) pe_int) rfl) (pe_one (pe_cmpR op_eq (pe_call G2 (hr.mono (by decide)) rfl T.g_track_of k2 b2 .nil pass0 (pa_cons (pv 1) pa_nil)) (pe_call G2 (hr.mono (by decide)) rfl T.g_track_of k2 b2 .nil pass0 (pa_cons (pe_fld (pv 0) rfl) pa_nil)) (nomark _)))))
      (pss_one (ps_ret (pe_op op_add (pv 1) (pe_callTy call_int1 (by rfl) T.f_int (by decide +kernel) (pa_cons (pv 2) pa_nil)))))), ?_⟩
    refine ⟨_, rfl, ⟨_, T.tracks H⟩, fun Dl nD => ?_⟩
    refine lc_plain (walk_tup (K := K) (a := He.ga K "BOOK_TRACKS") (xs := [.int 1, .int 2])) [.int (D.F 1 0), .int (D.F 2 0)] rfl (by decide) nD (fun H' _ => T.tracks H') ?_ ?_
    · rintro i x H2 H3 z hi hS hz ⟨rfl, hx⟩ R hR
      obtain ⟨t, ht, ex, ez⟩ : ∃ t : Nat, t < 3 ∧ x = .int (t : Int) ∧ z = .int (D.F t 0) := by
        have hi2 : i < 2 := hi
        match i, hi2, hx, hz with
        | 0, _, hx, hz => exact ⟨1, by decide, (Option.some.inj hx).symm, (Option.some.inj hz).symm⟩
        | 1, _, hx, hz => exact ⟨2, by decide, (Option.some.inj hx).symm, (Option.some.inj hz).symm⟩
      subst ex ez
      have hd := h.same hS
      refine ⟨rfl, _, rfl, b, _, _, _, _, rfl, hS _ _ hb, T.c_Book, T.nB_disk, rfl, p, _, _, rfl, hd.obj, rfl, _, rfl, p, D, t, rfl, hd, ht, hss, ?_⟩
      intro H4 tp h4 htp
      exact ⟨tp, _, 0, _, rfl, rfl, .of htp, at0, hR _ h4⟩
    · intro H1 h1 hD
      refine ⟨Dl, [D.F 1 0, D.F 2 0], rfl, .of hD, by show 0 < 2; decide, fun m hm hle => ?_⟩
      have hb1 := h1 _ _ hb
      have q1 : D.F 1 0 ≤ m := hle _ (by simp)
      have q2 : D.F 2 0 ≤ m := hle _ (by simp)
      have q3 : m ≤ B := by
        rcases
            List.mem_cons.mp hm with e | e
        · omega
        · rw [List.mem_singleton.mp e]; exact hm2
      refine ⟨1, m, rfl, rfl, ?_⟩
      have last : ∀ c : Bool, (0 < g → tk (1 + m + (if c then 1 else 0)) ≠ tk g) → (tRet (tOp (rI0 fun i j => .int (i + j)) (tVar 1) (tCB (fun xs H Q => (∃ i, xs = [.int i] ∧ Q (.int i) H) ∨ ∃ k, xs = [.bl k] ∧ Q (.int (if k then 1 else 0)) H) (tCons (tVar 2) tNil)))) { nx := fun _ H' => Q .non H', rt := Q } [some (.ref b), some (.int (1 + m)), some (.bl c), none] H1 := fun c hc => by
        refine ⟨_, rfl, _, rfl, .inr ⟨c, rfl, _, _, rfl, rfl, ?_⟩⟩
        refine q H1 _ h1 ?_ ?_ hc ?_ <;> cases c <;> simp <;> omega
      refine ⟨_, rfl, b, _, _, _, _, rfl, hb1, T.c_Book, T.nB_generation, rfl, g, 0, rfl, rfl, decide (0 < g), rfl, ?_⟩
      by_cases hg : 0 < g
      · rw [decide_eq_true hg]
        refine iteT ⟨_, rfl, 1 + m, rfl, _, rfl, b, _, _, _, _, rfl, hb1, T.c_Book, T.nB_generation, rfl, g, rfl, rfl, ?_⟩
        refine last _ fun _ => ?_
        by_cases hc : tk (1 + m) = tk g
        · rw [show decide (V.int ((tk (1 + m) : Nat) : Int) = V.int ((tk g : Nat) : Int)) = true from decide_eq_true (by rw [hc])]
          rw [if_pos rfl]
          unfold tk at hc ⊢
          omega
        · rw [show decide (V.int ((tk (1 + m) : Nat) : Int) = V.int ((tk g : Nat) : Int)) = false from decide_eq_false fun z => hc (by injection z with z; omega)]
          rw [if_neg Bool.false_ne_true, Int.add_zero]
          exact hc
      · rw [decide_eq_false hg]
        exact iteF (last false fun z => absurd z hg)
end
end PB

/-! turn -/
namespace PB
open PySem PySem.Spec PyProof.Rows L2
theorem stp_more {A B : Addr → Prop} {H H' : Hp} {l : Addr} (s : Stp A B H H') (n : H l = none) : Stp A (fun x => x = l ∨ B x) H H' :=
  ⟨s.keep, fun b f => by
    rcases f with rfl | f
    · exact .inr n
    · exact s.new b f, s.tup⟩
def rTupOf (K : PySem.W.Frag) : List V → Hp → VK → Prop := fun xs H Q => ∃ p ys, xs = [.ref p] ∧ ((SqL K H p ys ∧ ∀ l, H l = none → Q (.ref l) (upd H l (.tup ys))) ∨ (SqT K H p ys ∧ Q (.ref p) H))
theorem call_tuple_of2 {X : Cx} : CallR X (.type "tuple") (rTupOf X.K) := call_tuple_of
section
variable
    {P : Program} {w : World} {K : PySem.W.Frag} {mg : Str → Option Value} {base : Heap}
def spTurn (K : PySem.W.Frag) : Sp := fun vs H Q E => ∃ (b dx p ra Tl : Addr) (D : Dk) (us vs' : List V) (g : Int) (rs more rs' : List Rc) (B : Nat), vs = [.ref b, .ref ra] ∧ Sys K H p D b dx Tl us g rs more B ∧ B ≤ 800 ∧ D.N + 42 ≤ 100000 ∧ SqL K H ra vs' ∧ LR (RecR H) vs' rs' ∧
  (∀ r ∈ rs', r.good) ∧ rs' ≠ [] ∧ rs'.length ≤ 6 ∧
  (∀ (H' : Hp) (D' : Dk) (us' : List V) (Tl' : Addr) (g' : Int), Sys K H' p D' b dx Tl' us' g' rs' [] (B + 7) → g < g' → D'.N ≤ D.N + 42 → Stp (footS b Tl p D) (footS b Tl' p D') H H' → Q .non H') ∧
  ∀ (H' : Hp) (D' : Dk) (g' : Int), DiskAt K H' p D' → D'.ss.length ≤ 5 → D'.N ≤ D.N + 42 → g < g' → (∀ F', May D'.F D'.ss F' → BkSt F' g rs more (B + 7) ∨ BkSt F' g' rs' [] (B + 7)) → Stp (footS b Tl p D) (footS b Tl p D') H H' → OutE K E H'
theorem ok_turn (T : Ev K mg) : ∃ fd, FnOk P w K mg base (L2.CX P w) 7 (He.ma K (He.ga K "Book") "turn") fd ["self", "records"] (spTurn K) ∧ MtP K "turn" "Book.turn" sB_turn (He.ma K (He.ga K "Book") "turn") fd := by
  obtain ⟨fd, F, bb⟩ := T.dsB_turn
  obtain ⟨f1, G1, b1, k1⟩ := ok_are_records (P := P) (w := w) (base := base) T
  obtain ⟨f2, G2, b2⟩ := ok_bwrite (P := P) (w := w) (base := base) T
  obtain ⟨f3, G3, b3⟩ := ok_next (P := P) (w := w) (base := base) T
  refine ⟨fd, FunD.ok F csB_turn ?_ ?_, F⟩
  · rintro vs H Q E ⟨b, dx, p, ra, Tl, D, us, vs', g, rs, more, rs', B, rfl, _⟩; rfl
  · rintro cdv A outer s H vs Q E hr ⟨b, dx, p, ra, Tl, D, us, vs', g, rs, more, rs', B, rfl, h, hB, hN, hra, hrel, hgood, hne, hlen, q, qE⟩
    refine ⟨_, pss_cons (ps_if (PW.pt (pw_or (pt_not (pt_val (pe_call G1 (hr.mono (by decide)) rfl T.g_are_records k1 b1 .nil pass0 (pa_cons (pv 1) pa_nil)))) (pw_or1 (pt_cmpR op_eq (pe_callB call_len_seq (by rfl) T.f_len PySem.boot_len (pa_cons (pv 1) pa_nil)) pe_int (nomark _))))) (pss_one ps_never) pss_nil)
      (pss_cons (ps_setLc (i := 3) (own := [("record", 2)]) (g := gName 2) (tt := tYes) (te := tCB (rTupOf K) (tCons (tVar 2) tNil)) (by rfl) csB_turn.nd rfl rfl (sw_true rfl rfl rfl (by decide +kernel)) (pi_list (pv 1)) (blkOk_by (N := ["self", "records", "record", "told"]) (sc := defScope sB_turn) (by decide +kernel)) (fun _ _ _ _ _ => pg_name (i := 2) csB_turn.nd rfl (Or.inl rfl)) (fun _ _ _ _ _ => pts_nil)
          (fun _ _ _ _ _ => pe_callTy call_tuple_of2 (by rfl) T.f_tuple (by decide +kernel) (pa_cons (pv 2) pa_nil)))
      (pss_cons (ps_asg (pe_tup (pa_cons (pe_meth0 (pv 0) T.c_Book T.mB_next G3 hr b3 .nil pass0) (pa_cons pe_int pa_nil))) (pg_tup rfl (pgs_cons (pg_fld (pv 0)) (pgs_cons (pg_fld (pv 0)) pgs_nil))))
      (pss_cons (ps_for (passes_of rfl) rfl (pi_list (pe_lst (StX.pa_star (pv 3) (pa_cons (pe_glob (v := .ref (He.ga K "WHOLE")) rfl T.g_WHOLE rfl) pa_nil)))) (pg_name (i := 2) csB_turn.nd rfl (Or.inl rfl))
        (pss_one (ps_expr (pe_meth (pv 0) T.c_Book T.mB_write G2 hr b2 .nil (passes_call (takes_of rfl rfl rfl rfl) fun _ _ _ _ h => h) (pa_cons (pv 2) pa_nil)))))
      (pss_cons (ps_fld (pv 0) (pv 3) rfl) (pss_one (ps_fld (pv 0) pe_int rfl)))))), ?_⟩
    have hpos : 0 < rs'.length := List.length_pos_iff.mpr hne
    refine ⟨_, rfl, ra, vs', rs', rfl, hra, hrel, hgood, by omega, fun H1 h1 => ⟨true, rfl, iteF ?_⟩⟩
    refine ⟨_, rfl, _, _, rfl, .inl (h1.seq hra), rfl, _, rfl, ite2 (fun hc => ?_) fun _ => ?_⟩
    · have e := of_decide_eq_true hc
      injection e with e
      have := hrel.1
      omega
    refine ⟨_, rfl, ra, rfl, ⟨_, h1.seq hra⟩, fun l nl => ?_⟩
    refine lc_plain (walk_list (K := K) (a := ra) (xs := vs')) vs' rfl (small1000 (by rw [hrel.1]; omega)) nl (fun H' h' => h'.seq (h1.seq hra)) ?_ ?_
    · rintro i x H2 H3 z hi hS hz ⟨rfl, hx⟩ R hR
      rw [hx] at hz
      cases hz
      obtain ⟨r, er, hr2⟩ := lr_at hrel hx
      obtain ⟨aa, rfl, haa⟩ := rec_same (h1.trans hS) _ _ hr2
      exact ⟨rfl, _, rfl, aa, _, rfl, .inr ⟨.of haa, hR _ (Same.refl _)⟩⟩
    intro H2 h2 hl
    have hs2 := (h.same h1).same h2
    have m1 := (h.st.trk 1 (.inl rfl)).mx
    have m2 := (h.st.trk 2 (.inr rfl)).mx
    refine ⟨_, rfl, b, _, _, rfl, hs2.bk.obj, rfl, b, dx, p, Tl, D, g, _, _, B, rfl, hs2.bk.obj, hs2.dk, h.em, m1, m2, ?_⟩
    intro H3 g' h3 f1' f2' ftk fB
    have hs3 := hs2.same h3
    refine ⟨by show 2 ≤ sizeLine; decide, fun tp ntp => ?_⟩
    have s4 := SameN (o := .tup [.int g', .int 0]) ntp
    have hs4 := hs3.same s4
    refine ⟨tp, _, rfl, .of upd_same, rfl, _, _, rfl, _, rfl, b, _, _, _, rfl, hs4.bk.obj, T.c_Book, T.nB_generation, by show 5 < 1000; decide, _, _, rfl, _, rfl, b, _, _, _, rfl, upd_same, T.c_Book, T.nB_rows, by show 5 < 1000; decide, rfl, ?_⟩
    rw [upd_upd]
    generalize hH4 : upd H3 tp (.tup [.int g', .int 0]) = H4 at hs4 s4 ⊢
    generalize hH5 : upd H4 b (.ins (He.ga K "Book") dx _) = H5
    have hb5 : H5 b = some (.ins (He.ga K "Book") dx (fsB p g' more.length Tl 0)) := by rw [← hH5]; exact upd_same
    have st5 : Stp (fun x => x = b ∨ foot p D x) (fun x => x = b ∨ foot p D x) H4 H5 := by
      rw [← hH5]
      exact stp_upd (.inl rfl) hs4.bk.obj fun _ z => nomatch z
    have hd5 : DiskAt K H5 p D := hs4.dk.keep (fun x o f e => by
      rw [← hH5, upd_ne (fun z => h.nb (by rw [← z]; exact f))]
      exact e) st5.tup
    have sH4 : Same H H4 := h1.trans (h2.trans (h3.trans s4))
    have nlH : H l = none := h1.free nl
    have lb : l ≠ b := fun z => by rw [z, h.bk.obj] at nlH; cases nlH
    have nfl : ¬ foot p D l := fun f => by
      obtain ⟨o, e, _⟩ := h.dk.has f
      rw [nlH] at e
      cases e
    have hl4 : H4 l = some (.lst vs') := s4 _ _ (h3 _ _ hl)
    have hl5 : H5 l = some (.lst vs') := by rw [← hH5, upd_ne lb]; exact hl4
    refine ⟨_, rfl, l, vs', rfl, .inr (.of hl5), ?_⟩
    have hlv := hrel.1
    refine ⟨by have : (16 : Nat) ≤ sizeLine := by decide
               rw [List.length_append, hlv]
               simp only [List.length_singleton]
               omega, fun ll nll => ?_⟩
    have s6 := SameN (o := .lst (vs' ++ [.ref (He.ga K "WHOLE")])) nll
    generalize hH6 : upd H5 ll (.lst (vs' ++ [.ref (He.ga K "WHOLE")])) = H6 at s6
    have hll6 : H6 ll = some (.lst (vs' ++ [.ref (He.ga K "WHOLE")])) := by rw [← hH6]; exact upd_same
    have llb : ll ≠ b := fun z => by rw [z, hb5] at nll; cases nll
    have nfll : ¬ foot p D ll := fun f => by
      obtain ⟨o, e, _⟩ := hd5.has f
      rw [nll] at e
      cases e
    have st6 : Stp (fun x => x = b ∨ foot p D x) (fun x => x = b ∨ foot p D x) H H6 := (stp_same sH4).trans (st5.trans (stp_same s6))
    have T0 : Turning D.F g rs more (B + 7) g' rs' 0 := Turning.begin (h.st.mono (by omega)) f1' f2' ftk (by omega) (by omega) hgood hne
    have habove : g < g' := T0.above
    have hrel6 : LR (RecR H6) vs' rs' := lr_mono hrel fun r v hv => rec_stp st6 _ _ hv
    refine ⟨ll, rfl, ⟨_, .of hll6⟩, ?_⟩
    refine for_list (K := K) (a := ll) (xs := vs' ++ [.ref (He.ga K "WHOLE")]) (fun i σ H' => (∃ x2, σ = [some (.ref b), some (.ref ra), x2, some (.ref l)]) ∧ i ≤ rs'.length + 1 ∧ ∃ D', DiskAt K H' p D' ∧ D'.ss = [] ∧ D'.N ≤ D.N + 6 * i ∧
      (i ≤ rs'.length → Turning D'.F g rs more (B + 7) g' rs' i) ∧ (i = rs'.length + 1 → BkSt D'.F g' rs' [] (B + 7)) ∧ H' b = some (.ins (He.ga K "Book") dx (fsB p g' more.length Tl (i : Int))) ∧ ¬ foot p D' b ∧
      Stp (fun x => x = b ∨ foot p D x) (fun x => x = b ∨ foot p D' x) H6 H') ?_ ?_ ?_ ?_
    · exact ⟨⟨_, rfl⟩, Nat.zero_le _, D, hd5.same s6, h.em, Nat.le_refl _, fun _ => T0, fun z => absurd z (by omega), s6 _ _ hb5, h.nb, stp_same (Same.refl _)⟩
    · rintro i σ H' _ ⟨_, _, D', _, _, _, _, _, _, _, st⟩
      exact .of (st.keep _ _ hll6 fun z => z.elim llb nfll)
    · rintro i x σ H7 hx ⟨⟨x2, rfl⟩, hi, D', hd, hss, hN', hT, _, hb7, nb7, st⟩
      have hi2 : i < vs'.length + 1 := by
        have := (List.getElem?_eq_some_iff.mp hx).1
        rw [List.length_append, List.length_singleton] at this
        exact this
      have hil : i ≤ rs'.length := by omega
      have Ti := hT hil
      -- the record of this turn
      have hrec : ∃ (a : Addr) (r : Rc), x = .ref a ∧ SqT K H7 a r.vals ∧ r.ok ∧ r.fit ∧ (∀ F', Torn D'.F F' (tk g') i r g' → BkSt F' g rs more (B + 7) ∨ BkSt F' g' rs' [] (B + 7)) ∧
          (∀ F', Full D'.F F' (tk g') i r g' → (i + 1 ≤ rs'.length → Turning F' g rs more (B + 7) g' rs' (i + 1)) ∧ (i + 1 = rs'.length + 1 → BkSt F' g' rs' [] (B + 7))) := by
        by_cases c : i < rs'.length
        · rw [List.getElem?_append_left (by omega)] at hx
          obtain ⟨r, er, hr2⟩ := lr_at hrel6 hx
          obtain ⟨aa, rfl, haa⟩ := rec_stp st _ _ hr2
          have hg := hgood r (List.mem_of_getElem? er)
          exact ⟨aa, r, rfl, .of haa, hg.ok, hg.ns, fun F' t => .inl (Ti.step_torn er t), fun F' t => ⟨fun _ => Ti.step_full er t, fun z => absurd z (by omega)⟩⟩
        · have ei : i = rs'.length := by omega
          subst ei
          rw [List.getElem?_append_right (by omega), hlv, Nat.sub_self] at hx
          have ex : V.ref (He.ga K "WHOLE") = x := by simpa using hx
          subst ex
          exact ⟨_, whole, rfl, T.wholeT _, whole_ok, fun n hn => by simp [whole] at hn, fun F' t => Ti.last_torn t, fun F' t => ⟨fun z => absurd z (by omega), fun _ => Ti.last_full t⟩⟩
      obtain ⟨a, r, rfl, ha, hok, hfit, hTorn, hFull⟩ := hrec
      have sub : ∀ {D2 : Dk} {H8 : Hp}, Stp (fun x => x = b ∨ foot p D x) (fun x => x = b ∨ foot p D2 x) H6 H8 → Stp (footS b Tl p D) (footS b Tl p D2) H H8 := fun s8 => stp_sub (st6.trans s8) (fun x hx => by
        rcases hx with hx | hx
        · exact .inl (.inl hx)
        · exact .inr hx) fun x hx => by
        rcases hx with hx | hx
        · exact .inr (.inl hx)
        · exact .inl (.inr hx)
      refine ⟨_, rfl, b, _, _, rfl, hb7, rfl, _, rfl, b, dx, p, a, Tl, D', g', more.length, i, r, rfl, hb7, hd, hss, nb7, ha, hok, hfit, by have := Ti.pos; omega, by omega, by omega, by omega, ?_, ?_⟩
      · intro H8 D2 hd2 hss2 eN2 hF2 hb2 nb2 st2
        exact ⟨⟨_, rfl⟩, by omega, D2, hd2, hss2, by omega, (hFull _ hF2).1, (hFull _ hF2).2, hb2, nb2, st.trans st2⟩
      · intro H8 D2 hd2 hss2 eN2 hF2 nb2 st2
        exact qE H8 D2 g' hd2 hss2 (by omega) habove (fun F' hm => hTorn F' (hF2 F' hm)) (sub (st.trans st2))
    · rintro σ H7 ⟨⟨x2, rfl⟩, _, D', hd, hss, hN', _, hS, hb7, nb7, st⟩
      have en : (vs' ++ [V.ref (He.ga K "WHOLE")]).length = rs'.length + 1 := by rw [List.length_append, List.length_singleton, hlv]
      rw [en] at hN' hb7
      have hst := hS en
      have hl7 : H7 l = some (.lst vs') := st.keep _ _ (s6 _ _ hl5) fun z => z.elim lb nfl
      have nfl7 : ¬ foot p D' l := fun z => stp_not st (s6 _ _ hl5) (fun z => z.elim lb nfl) (.inr z)
      refine ⟨_, rfl, _, rfl, b, _, _, _, rfl, hb7, T.c_Book, T.nB_told, by show 5 < 1000; decide, ?_⟩
      refine ⟨_, rfl, b, _, _, _, rfl, upd_same, T.c_Book, T.nB_added, by show 5 < 1000; decide, ?_⟩
      rw [upd_upd]
      have st8 : Stp (fun x => x = b ∨ foot p D' x) (fun x => x = b ∨ foot p D' x) H7 (upd H7 b (.ins (He.ga K "Book") dx (fsB p g' 0 l ((rs'.length + 1 : Nat) : Int)))) := stp_upd (.inl rfl) hb7 fun _ z => nomatch z
      have eall : allRows g' rs' [] = rs' ++ [whole] := by
        unfold allRows
        rw [if_neg (by have := T0.pos; omega)]
      refine q _ D' vs' l g' ⟨hd.keep (fun x o f e => (upd_ne (fun z => nb7 (by rw [← z]; exact f))).trans e) st8.tup, hss, hst, ⟨?_, (upd_ne lb).trans hl7, ?_⟩, nb7, nfl7⟩ habove (by omega) ?_
      · refine upd_same.trans ?_
        rw [eall, List.length_append]
        rfl
      · rw [List.append_nil]
        exact lr_mono hrel6 fun r v hv => rec_stp st8 _ _ (rec_stp st _ _ hv)
      · refine stp_sub (stp_more (st6.trans (st.trans st8)) nlH) (fun x hx => ?_) fun x hx => ?_
        · rcases hx with hx | hx
          · exact .inl (.inl hx)
          · exact .inr hx
        · rcases hx with (hx | hx) | hx
          · exact .inr (.inl (.inl hx))
          · exact .inl (.inl hx)
          · exact .inl (.inr (.inr hx))
end
end PB

/-! the law's nook -/
namespace PB
open PySem PySem.Spec PyProof.Rows L2
structure NookAt (H : Hp) (n cl : Addr) (cs : List Int) (turn left : Int) : Prop where
  lst : H n = some (.lst [.ref cl, .int turn, .int left])
  cel : H cl = some (.lst (cs.map V.int))
  t0 : 0 ≤ turn
  l0 : 0 ≤ left
/-- a nook after at most so many turns -/
structure Nk (H : Hp) (n cl : Addr) (cs : List Int) (T : Int) : Prop where
  ex : ∃ turn left, NookAt H n cl cs turn left ∧ turn ≤ T
  len : cs.length ≤ 100
def isN (n x : Addr) : Prop := x = n
theorem nook_ne {H : Hp} {n cl : Addr} {cs : List Int} {turn left : Int} (h : NookAt H n cl cs turn left) : cl ≠ n := fun z => by
  have e1 := h.lst
  have e2 := h.cel
  rw [z, e1] at e2
  have e3 : [V.ref cl, .int turn, .int left] = cs.map V.int := by injection e2 with e; injection e
  match cs, e3 with
  | c :: cs, e3 => cases e3
theorem Nk.keep {H H' : Hp} {n cl : Addr} {cs : List Int} {T : Int} (h : Nk H n cl cs T) (e : ∀ b o, (b = n ∨ b = cl) → H b = some o → H' b = some o) : Nk H' n cl cs T := by
  obtain ⟨t, l, h1, h2⟩ := h.ex
  exact ⟨⟨t, l, ⟨e _ _ (.inl rfl) h1.lst, e _ _ (.inr rfl) h1.cel, h1.t0, h1.l0⟩, h2⟩, h.len⟩
theorem Nk.same {H H' : Hp} {n cl : Addr} {cs : List Int} {T : Int} (h : Nk H n cl cs T) (e : Same H H') : Nk H' n cl cs T := h.keep fun b o _ q => e b o q
theorem Nk.mono {H : Hp} {n cl : Addr} {cs : List Int} {T T' : Int} (h : Nk H n cl cs T) (e : T ≤ T') : Nk H n cl cs T' := by
  obtain ⟨t, l, h1, h2⟩ := h.ex
  exact ⟨⟨t, l, h1, by omega⟩, h.len⟩
section
variable
    {P : Program} {w : World} {K : PySem.W.Frag} {mg : Str → Option Value} {base : Heap}
def spNook (K : PySem.W.Frag) : Sp := fun vs H Q _ => ∃ (a : Addr) (ns : List Int), vs = [.ref a] ∧ SqL K H a (ns.map V.int) ∧ ∀ (H' : Hp) (n cl : Addr) (cs : List Int), Same H H' → H n = none → H cl = none → Nk H' n cl cs 0 → Q (.ref n) H'
theorem ok_nook (T : Ev K mg) : OkF P w K mg base CX0 1 "_law_nook" ["_law_script"] (spNook K) := by
  obtain ⟨fd, F, b⟩ := T.ds_law_nook
  refine ⟨fd, FunD.ok F cs_law_nook ?_ ?_, b, F.kp⟩
  · rintro vs H Q E ⟨a, ns, rfl, _⟩; rfl
  · rintro cdv A outer s H vs Q E hr ⟨a, ns, rfl, ha, q⟩
    refine ⟨_, pss_one (ps_ret (pe_lst (pa_cons (pe_lc (own := [("_law_cell", 1)]) (g := gName 1) (tt := tYes) rfl cs_law_nook.nd (pi_list (pe_slice sl_list (pv 0) po_none (po_some pe_int))) (blkOk_by (N := ["_law_script", "_law_cell"]) (sc := defScope s_law_nook) (by decide +kernel)) (fun _ _ _ _ _ => pg_name (i := 1) cs_law_nook.nd rfl (Or.inl rfl)) (fun _ _ _ _ _ => pts_nil)
        (fun _ _ _ _ _ => pe_callTy call_int1 (by rfl) T.f_int (by decide +kernel) (pa_cons (pv 1) pa_nil))) (pa_cons pe_int (pa_cons pe_int pa_nil))))), ?_⟩
    refine ⟨_, rfl, 57, rfl, a, _, rfl, ha, fun p np => ?_⟩
    have np : H p = none := np
    have ec : cutV (ns.map V.int) none (some 57) = (ns.take 57).map V.int := by rw [List.map_take]; exact cut_to _ 57
    rw [ec]
    have s1 := SameN (o := .lst ((ns.take 57).map V.int)) np
    have hl : (ns.take 57).length ≤ 57 := by rw [List.length_take]; omega
    refine ⟨p, rfl, ⟨_, .of upd_same⟩, fun D nD => ?_⟩
    refine lc_plain (walk_list (K := K) (a := p) (xs := (ns.take 57).map V.int)) ((ns.take 57).map V.int) rfl (small1000 (by rw [List.length_map]; omega)) nD (fun H' h' => h'.seq (.of upd_same)) ?_ ?_
    · rintro i x H2 H3 z hi hS hz ⟨rfl, hx⟩ R hR
      rw [hx] at hz
      cases hz
      rw [List.getElem?_map] at hx
      obtain ⟨k, hk, rfl⟩ := Option.map_eq_some_iff.mp hx
      exact ⟨rfl, _, rfl, .inl ⟨k, rfl, hR _ (Same.refl _)⟩⟩
    · intro H2 h2 hD
      refine ⟨by show 3 ≤ sizeLine; decide, fun n nn => ?_⟩
      have s3 := SameN (o := .lst [.ref D, .int 0, .int 0]) nn
      have nn : H2 n = none := nn
      refine q _ n D (ns.take 57) (s1.trans (h2.trans s3)) ((s1.trans h2).free nn) (s1.free nD) ⟨⟨0, 0, ⟨upd_same, s3 _ _ hD, Int.le_refl _, Int.le_refl _⟩, Int.le_refl _⟩, by omega⟩
def spReach : Sp := fun vs H Q _ => ∃ (n cl : Addr) (cs : List Int) (T many : Int), vs = [.ref n, .int many] ∧ Nk H n cl cs T ∧ T ≤ 900000 ∧ 0 < many ∧ many < 1073741824 ∧
  ∀ (H' : Hp) (r : Int), Nk H' n cl cs (T + 1) → 0 ≤ r → r < many → Stp (isN n) (isN n) H H' → Q (.int r) H'
theorem pow_nn {a : Int} (h : 0 ≤ a) (k : Nat) : 0 ≤ a ^ k := Int.pow_nonneg h
theorem rb1 (c t : Int) (h0 : 0 ≤ t) (h1 : t ≤ 900000) : (0 : Int) ≤ 5 ∧ (5 : Int) ≤ 1000000 ∧ (c % 2147483563 + 55313 * t + 6229).natAbs < 2 ^ 64 := by
  have a1 := Int.emod_nonneg c (show (2147483563 : Int) ≠ 0 by decide)
  have a2 := Int.emod_lt_of_pos c (show (0 : Int) < 2147483563 by decide)
  refine ⟨by decide, by decide, ?_⟩
  omega
theorem rb3 (m : Int) : -(2 ^ 64) < m % 2147483549 ∧ m % 2147483549 < 2 ^ 64 := by
  have a1 := Int.emod_nonneg m (show (2147483549 : Int) ≠ 0 by decide)
  have a2 := Int.emod_lt_of_pos m (show (0 : Int) < 2147483549 by decide)
  omega
theorem rb2 (m t : Int) (h0 : 0 ≤ t) (h1 : t ≤ 900000) : (0 : Int) ≤ 3 ∧ (3 : Int) ≤ 1000000 ∧ (m % 2147483549 * (2 * t + 6247) + 44087 * t * t + 55313).natAbs < 2 ^ 64 := by
  have a1 := Int.emod_nonneg m (show (2147483549 : Int) ≠ 0 by decide)
  have a2 := Int.emod_lt_of_pos m (show (0 : Int) < 2147483549 by decide)
  generalize m % 2147483549 = x at a1 a2 ⊢
  have b1 : x * (2 * t + 6247) ≤ 2147483549 * 1806247 := Int.mul_le_mul (by omega) (by omega) (by omega) (by decide)
  have b0 : 0 ≤ x * (2 * t + 6247) := Int.mul_nonneg a1 (by omega)
  have c1 : 44087 * t * t ≤ (44087 * 900000) * 900000 := Int.mul_le_mul (by omega) (by omega) (by omega) (by decide)
  have c0 : 0 ≤ 44087 * t * t := Int.mul_nonneg (by omega) h0
  refine ⟨by decide, by decide, ?_⟩
  generalize x * (2 * t + 6247) = y at b0 b1 ⊢
  generalize 44087 * t * t = z at c0 c1 ⊢
  omega
theorem rb5 (c : Int) (h : (10 : Int) ^ (18 : Int).toNat ≤ (if c < 0 then -c else c)) : 0 ≤ 2 * ((if c < 0 then -c else c) - (10 : Int) ^ (18 : Int).toNat) + (if decide (c < 0) = true then 1 else 0) := by
  generalize (10 : Int) ^ (18 : Int).toNat = u at h ⊢
  by_cases hc : c < 0
  · rw [if_pos hc] at h ⊢
    rw [if_pos (decide_eq_true hc)]
    omega
  · rw [if_neg hc] at h ⊢
    rw [if_neg (by rw [decide_eq_false hc]; exact Bool.false_ne_true)]
    omega
theorem ok_reach (T : Ev K mg) : OkF P w K mg base CX0 1 "_law_reach" ["_law_nook_here", "_law_many"] spReach := by
  obtain ⟨fd, F, b⟩ := T.ds_law_reach
  refine ⟨fd, FunD.ok F cs_law_reach ?_ ?_, b, F.kp⟩
  · rintro vs H Q E ⟨n, cl, cs, T, many, rfl, _⟩; rfl
  · rintro cdv A outer s H vs Q E hr ⟨n, cl, cs, Tn, many, rfl, hnk, hT, hm0, hm1, q⟩
    refine ⟨_, pss_cons (ps_if (pt_cmpR op_gt (pe_ix ix_list (pv 0) pe_int (fun _ _ => rfl)) pe_int (nomark _))
        (pss_cons (ps_set (i := 2) cs_law_reach.nd rfl (Or.inl rfl) (pe_ix ix_list (pv 0) pe_int (fun _ _ => rfl)))
        (pss_cons (ps_asg (pe_op op_fdiv (pe_callTy call_int1 (by rfl) T.f_int (by decide +kernel) (pa_cons (pv 2) pa_nil)) (pv 1)) (pg_sub (pv 0) pe_int set_list))
        (pss_one (ps_ret (pe_op op_mod (pe_callTy call_int1 (by rfl) T.f_int (by decide +kernel) (pa_cons (pv 2) pa_nil)) (pv 1)))))) pss_nil)
      (pss_cons (ps_set (i := 3) cs_law_reach.nd rfl (Or.inl rfl) (pe_ix ix_list (pv 0) pe_int (fun _ _ => rfl)))
      (pss_cons (ps_asg (pe_op op_add (pv 3) pe_int) (pg_sub (pv 0) pe_int set_list))
      (pss_cons (ps_set (i := 4) cs_law_reach.nd rfl (Or.inl rfl) (pe_op op_add (pe_op op_mul pe_int (pv 3)) pe_int))
      (pss_cons (ps_if (pt_cmpR (op_neD hr.units) (pe_ix ix_list (pv 0) pe_int (fun _ _ => rfl)) (pe_lst pa_nil) (nomark _))
        (pss_one (ps_set (i := 4) cs_law_reach.nd rfl (Or.inl rfl) (pe_ix ix_list (pe_ix ix_list (pv 0) pe_int (fun _ _ => rfl)) (pe_op op_mod (pe_callTy call_int1 (by rfl) T.f_int (by decide +kernel) (pa_cons (pv 3) pa_nil)) (pe_callB call_len_seq (by rfl) T.f_len PySem.boot_len (pa_cons (pe_ix ix_list (pv 0) pe_int (fun _ _ => rfl)) pa_nil))) (fun _ _ => rfl)))) pss_nil)
      (pss_cons (ps_if (PW.pt (pw_and (pt_cmpR op_lt (pv 3) (pe_callB call_len_seq (by rfl) T.f_len PySem.boot_len (pa_cons (pe_ix ix_list (pv 0) pe_int (fun _ _ => rfl)) pa_nil)) (nomark _))
          (pw_and1 (pt_cmpR op_ge (pe_callB call_abs (by rfl) T.f_abs (by decide +kernel) (pa_cons (pv 4) pa_nil)) (pe_op op_pow pe_int pe_int) (nomark _)))))
        (pss_cons (ps_set (i := 2) cs_law_reach.nd rfl (Or.inl rfl) (pe_op op_add (pe_op op_mul pe_int (pe_op op_sub (pe_callB call_abs (by rfl) T.f_abs (by decide +kernel) (pa_cons (pv 4) pa_nil)) (pe_op op_pow pe_int pe_int))) (pe_callTy call_int1 (by rfl) T.f_int (by decide +kernel) (pa_cons (pe_cmp (pc_lt (pv 4) pe_int) rfl) pa_nil))))
        (pss_cons (ps_asg (pe_op op_fdiv (pe_callTy call_int1 (by rfl) T.f_int (by decide +kernel) (pa_cons (pv 2) pa_nil)) (pv 1)) (pg_sub (pv 0) pe_int set_list))
        (pss_one (ps_ret (pe_op op_mod (pe_callTy call_int1 (by rfl) T.f_int (by decide +kernel) (pa_cons (pv 2) pa_nil)) (pv 1)))))) pss_nil)
      (pss_cons (ps_set (i := 5) cs_law_reach.nd rfl (Or.inl rfl) (pe_op op_mod (pe_callTy call_int1 (by rfl) T.f_int (by decide +kernel) (pa_cons (pe_op op_pow (pe_op op_add (pe_op op_add (pe_op op_mod (pe_callTy call_int1 (by rfl) T.f_int (by decide +kernel) (pa_cons (pv 4) pa_nil)) pe_int) (pe_op op_mul pe_int (pv 3))) pe_int) pe_int) pa_nil)) pe_int))
      (pss_cons (ps_set (i := 5) cs_law_reach.nd rfl (Or.inl rfl) (pe_op op_mod (pe_callTy call_int1 (by rfl) T.f_int (by decide +kernel) (pa_cons (pe_op op_pow (pe_op op_add (pe_op op_add (pe_op op_mul (pv 5) (pe_op op_add (pe_op op_mul pe_int (pv 3)) pe_int)) (pe_op op_mul (pe_op op_mul pe_int (pv 3)) (pv 3))) pe_int) pe_int) pa_nil)) pe_int))
      (pss_one (ps_ret (pe_op op_mod (pe_callTy call_int1 (by rfl) T.f_int (by decide +kernel) (pa_cons (pe_op op_fdiv (pv 5) pe_int) pa_nil)) (pv 1))))))))))), ?_⟩
    obtain ⟨turn, left, h, hturn⟩ := hnk.ex
    have ncl := nook_ne h
    have at2 : ∀ {x y z : V}, atI [x, y, z] 2 = some z := fun {x y z} => atI_nat (j := 2) rfl
    have fin : ∀ (H' : Hp) (t' l' x : Int), NookAt H' n cl cs t' l' → t' ≤ turn + 1 → Stp (isN n) (isN n) H H' → Q (.int (x % many)) H' := fun H' t' l' x h' ht st =>
      q H' _ ⟨⟨t', l', h', by omega⟩, hnk.len⟩ (Int.emod_nonneg _ (by omega)) (Int.emod_lt_of_pos _ hm0) st
    refine ⟨_, rfl, n, _, 2, _, rfl, rfl, .of h.lst, at2, left, 0, rfl, rfl, _, rfl, ite2 (fun hc => ?_) fun hc => ?_⟩
    · refine ⟨_, rfl, n, _, 2, _, rfl, rfl, .of h.lst, at2, ?_⟩
      refine ⟨_, rfl, .inl ⟨left, rfl, _, rfl, left, many, rfl, rfl, ⟨hm0, hm1⟩, _, rfl, n, _, 2, 2, rfl, rfl, h.lst, rfl, ?_⟩⟩
      refine ⟨_, rfl, .inl ⟨left, rfl, _, rfl, left, many, rfl, rfl, hm0, ?_⟩⟩
      exact fin _ turn (left / many) left ⟨upd_same, (upd_ne ncl).trans h.cel, h.t0, Int.ediv_nonneg h.l0 (by omega)⟩ (by omega) (stp_upd rfl h.lst fun _ z => nomatch z)
    refine ⟨_, rfl, n, _, 1, _, rfl, rfl, .of h.lst, at1, ?_⟩
    refine ⟨_, rfl, turn, 1, rfl, rfl, _, rfl, n, _, 1, 1, rfl, rfl, h.lst, rfl, ?_⟩
    have h1t : turn ≤ 900000 := by omega
    generalize hH1 : upd H n _ = H1
    have h1 : NookAt H1 n cl cs (turn + 1) left := by
      rw [← hH1]
      exact ⟨upd_same, (upd_ne ncl).trans h.cel, by have := h.t0; omega, h.l0⟩
    have st1 : Stp (isN n) (isN n) H H1 := by
      rw [← hH1]
      exact stp_upd rfl h.lst fun _ z => nomatch z
    refine ⟨_, rfl, 44087, turn, rfl, rfl, .inl ⟨by decide, by decide⟩, _, _, rfl, rfl, ?_⟩
    refine ⟨_, rfl, n, _, 0, _, rfl, rfl, .of h1.lst, at0, Nat.zero_le _, fun l nl => ?_⟩
    have s2 := SameN (o := .lst []) nl
    generalize hH2 : upd H1 l (.lst []) = H2 at s2
    have hl2 : H2 l = some (.lst []) := by rw [← hH2]; exact upd_same
    have h2 : NookAt H2 n cl cs (turn + 1) left := ⟨s2 _ _ h1.lst, s2 _ _ h1.cel, h1.t0, h1.l0⟩
    have st2 := st1.trans (stp_same (A := isN n) s2)
    refine ⟨.list (cs.map PyData.int), .list [], .lst (.of h2.cel) (dp_ints _), .lst (.of hl2) .nil, PySem.W.ke_shaped_ints _, by rfl, _, rfl, ite2 (fun hc => ?_) fun hc => ?_⟩
    focus
      have hne : cs ≠ [] := fun z => by
        rw [z] at hc
        exact absurd hc (by decide)
      have hpos : 0 < cs.length := List.length_pos_iff.mpr hne
      obtain ⟨i, hi⟩ : ∃ i : Nat, (i : Int) = turn % ((cs.map V.int).length : Int) := ⟨(turn % ((cs.map V.int).length : Int)).toNat, Int.toNat_of_nonneg (Int.emod_nonneg _ (by rw [List.length_map]; omega))⟩
      have hi2 : i < (cs.map V.int).length := by
        have := Int.emod_lt_of_pos turn (show (0 : Int) < ((cs.map V.int).length : Int) by rw [List.length_map]; omega)
        omega
      obtain ⟨c, ec⟩ : ∃ c, (cs.map V.int)[i]? = some (.int c) := by
        rw [List.length_map] at hi2
        exact ⟨cs[i], by rw [List.getElem?_map, List.getElem?_eq_getElem hi2]; rfl⟩
      have ea := atI_nat ec
      rw [hi] at ea
      refine ⟨_, rfl, n, _, 0, _, rfl, rfl, .of h2.lst, at0, _, rfl, .inl ⟨turn, rfl, _, rfl, n, _, 0, _, rfl, rfl, .of h2.lst, at0, cl, _, rfl, .inl (.of h2.cel), turn, _, rfl, rfl, by rw [List.length_map]; omega, cl, _, _, _, rfl, rfl, .of h2.cel, ea, ?_⟩⟩
    all_goals
      refine ⟨_, rfl, _, rfl, n, _, 0, _, rfl, rfl, .of h2.lst, at0, cl, _, rfl, .inl (.of h2.cel), _, _, rfl, rfl, _, rfl, ite2 (fun _ => ⟨_, rfl, _, rfl, 10, 18, rfl, rfl, ⟨by decide, by decide, by decide⟩, _, _, rfl, rfl, _, rfl, ite2 (fun hB => ?_) fun _ => ?_⟩) fun _ => iteF ?_⟩
      · have hB := rb5 _ (of_decide_eq_true hB)
        refine ⟨_, rfl, _, rfl, 10, 18, rfl, rfl, ⟨by decide, by decide, by decide⟩, _, _, rfl, rfl, 2, _, rfl, rfl, .inl ⟨by decide, by decide⟩, _, rfl, _, _, rfl, rfl, .inr ⟨_, rfl, _, _, rfl, rfl, ?_⟩⟩
        refine ⟨_, rfl, .inl ⟨_, rfl, _, rfl, _, many, rfl, rfl, ⟨hm0, hm1⟩, _, rfl, n, _, 2, 2, rfl, rfl, h2.lst, rfl, ?_⟩⟩
        refine ⟨_, rfl, .inl ⟨_, rfl, _, rfl, _, many, rfl, rfl, hm0, ?_⟩⟩
        exact fin _ (turn + 1) _ _ ⟨upd_same, (upd_ne ncl).trans h2.cel, h2.t0, Int.ediv_nonneg hB (by omega)⟩ (Int.le_refl _) (st2.trans (stp_upd rfl h2.lst fun _ z => nomatch z))
      all_goals
        refine ⟨_, rfl, .inl ⟨_, rfl, _, _, rfl, rfl, by show (0 : Int) < 2147483563; decide, _, rfl, 55313, turn, rfl, rfl, .inl ⟨by decide, by decide⟩, _, _, rfl, rfl, _, _, rfl, rfl, _, 5, rfl, rfl, rb1 _ turn h.t0 h1t, .inl ⟨_, rfl, _, _, rfl, rfl, by show (0 : Int) < 2147483549; decide, ?_⟩⟩⟩
        refine ⟨_, rfl, _, rfl, 2, turn, rfl, rfl, .inl ⟨by decide, by decide⟩, _, _, rfl, rfl, _, _, rfl, rfl, .inl (rb3 _), ?_⟩
        refine ⟨_, rfl, 44087, turn, rfl, rfl, .inl ⟨by decide, by decide⟩, _, rfl, _, turn, rfl, rfl, .inl (by have := h.t0; show -(2 ^ 64) < 44087 * turn ∧ 44087 * turn < 2 ^ 64; omega), _, _, rfl, rfl, _, _, rfl, rfl, _, 3, rfl, rfl, rb2 _ turn h.t0 h1t, .inl ⟨_, rfl, _, _, rfl, rfl, by show (0 : Int) < 2147483579; decide, ?_⟩⟩
        refine ⟨_, rfl, _, 64, rfl, rfl, ⟨by decide, by decide⟩, .inl ⟨_, rfl, _, rfl, _, many, rfl, rfl, hm0, ?_⟩⟩
        exact fin _ (turn + 1) left _ h2 (Int.le_refl _) st2
/-- one of some -/
def spPick (K : PySem.W.Frag) : Sp := fun vs H Q _ => ∃ (n cl : Addr) (cs : List Int) (T : Int) (s : Addr) (xs : List V), vs = [.ref n, .ref s] ∧ Nk H n cl cs T ∧ T ≤ 900000 ∧ H s = some (.lst xs) ∧ s ≠ n ∧ 0 < xs.length ∧ xs.length ≤ 1000 ∧
  ∀ (H' : Hp) (i : Nat) (v : V), xs[i]? = some v → Nk H' n cl cs (T + 1) → Stp (isN n) (isN n) H H' → Q v H'
theorem ok_pick (T : Ev K mg) : OkF P w K mg base CX0 2 "_law_pick" ["_law_nook_here", "_law_some"] (spPick K) := by
  obtain ⟨fd, F, b⟩ := T.ds_law_pick
  obtain ⟨f1, G1, b1, k1⟩ := ok_reach (P := P) (w := w) (base := base) T
  refine ⟨fd, FunD.ok F cs_law_pick ?_ ?_, b, F.kp⟩
  · rintro vs H Q E ⟨n, cl, cs, T, s, xs, rfl, _⟩; rfl
  · rintro cdv A outer s H vs Q E hr ⟨n, cl, cs, Tn, sl, xs, rfl, hnk, hT, hs, hne, h0, h1, q⟩
    refine ⟨_, pss_one (ps_ret (pe_ix ix_list (pv 1) (pe_call G1 hr rfl T.g_law_reach k1 b1 .nil pass0 (pa_cons (pv 0) (pa_cons (pe_callB call_len_seq (by rfl) T.f_len PySem.boot_len (pa_cons (pv 1) pa_nil)) pa_nil))) (fun _ _ => rfl))), ?_⟩
    refine ⟨_, rfl, _, rfl, _, rfl, sl, xs, rfl, .inl (.of hs), n, cl, cs, Tn, _, rfl, hnk, hT, by omega, by omega, ?_⟩
    intro H' r hnk' r0 r1 st
    have hi : r.toNat < xs.length := by omega
    have ea := atI_nat (List.getElem?_eq_getElem hi)
    rw [Int.toNat_of_nonneg r0] at ea
    exact ⟨sl, xs, r, _, rfl, rfl, .of (st.keep _ _ hs hne), ea, q H' r.toNat _ (List.getElem?_eq_getElem hi) hnk' st⟩
end
end PB

/-! the law's words, records, rows -/
namespace PB
open PySem PySem.Spec PyProof.Rows L2
theorem stp_put {A B : Addr → Prop} {H H1 : Hp} {p : Addr} {o : HO} (s : Stp A B H H1) (n : H p = none) : Stp A B H (upd H1 p o) :=
  ⟨fun b u e nb => by rw [upd_ne (fun z => by rw [z, n] at e; cases e)]; exact s.keep b u e nb, s.new, fun b xs e => by
    rw [upd_ne (fun z => by rw [z, n] at e; cases e)]; exact s.tup b xs e⟩
def WR (H : Hp) (i : Nat) (v : V) : Prop := ∃ t, v = .ref t ∧ H t = some (.tup [.str (wd i), .int (nm i)])
theorem wr_same {H H' : Hp} (e : Same H H') : ∀ i v, WR H i v → WR H' i v := fun i v ⟨t, h1, h2⟩ => ⟨t, h1, e _ _ h2⟩
section
variable
    {P : Program} {w : World} {K : PySem.W.Frag} {mg : Str → Option Value} {base : Heap}
def wp (i : Nat) : V × V := (.str (wd i), .int (nm i))
theorem words_zip : ([V.str "put", V.str "drop", V.str "copied", V.str "view", V.str "letgo", V.str "start", V.str "region", V.str "thing", V.str "named", V.str "seen", V.str "viewed"]).zip [V.int 2, V.int 1, V.int 0, V.int 1, V.int 1, V.int 3, V.int 1, V.int 4, V.int 2, V.int 1, V.int 3] = (List.range 11).map wp := by decide +kernel
theorem paired_lr {α β : Type} {R : α → β → Prop} : ∀ {xs : List α} {ys : List β}, Paired R xs ys → xs.length = ys.length ∧ ∀ (i : Nat) (y : β), ys[i]? = some y → ∃ x, xs[i]? = some x ∧ R x y
  | _, _, .nil => ⟨rfl, fun i y e => by simp at e⟩
  | _, _, .cons h t => by
    obtain ⟨h1, h2⟩ := paired_lr t
    refine ⟨by rw [List.length_cons, List.length_cons, h1], fun i y e => ?_⟩
    cases i with
    | zero =>
      cases e
      exact ⟨_, rfl, h⟩
    | succ i => exact h2 i y e
def spWords : Sp := fun vs H Q _ => vs = [] ∧ ∀ (H' : Hp) (l : Addr) (us : List V), Same H H' → H l = none → H' l = some (.lst us) → LR (WR H') us (List.range 11) → Q (.ref l) H'
theorem ok_words (T : Ev K mg) : OkF P w K mg base CX0 1 "_law_words" [] spWords := by
  obtain ⟨fd, F, b⟩ := T.ds_law_words
  refine ⟨fd, FunD.ok F cs_law_words ?_ ?_, b, F.kp⟩
  · rintro vs H Q E ⟨rfl, _⟩; rfl
  · rintro cdv A outer s H vs Q E hr ⟨rfl, q⟩
    refine ⟨_, pss_cons (ps_set (i := 0) cs_law_words.nd rfl (Or.inl rfl) (pe_lst (pa_cons pe_str (pa_cons pe_str (pa_cons pe_str (pa_cons pe_str (pa_cons pe_str (pa_cons pe_str (pa_cons pe_str (pa_cons pe_str (pa_cons pe_str (pa_cons pe_str (pa_cons pe_str pa_nil)))))))))))))
      (pss_one (ps_ret (pe_listZip rfl (by rfl) T.f_list (by rfl) T.f_zip (pa_cons (pv 0) (pa_cons (pe_lst (pa_cons pe_int (pa_cons pe_int (pa_cons pe_int (pa_cons pe_int (pa_cons pe_int (pa_cons pe_int (pa_cons pe_int (pa_cons pe_int (pa_cons pe_int (pa_cons pe_int (pa_cons pe_int pa_nil)))))))))))) pa_nil))))), ?_⟩
    refine ⟨by show 11 ≤ sizeLine; decide, fun a na => ?_⟩
    have s1 := SameN (o := .lst [V.str "put", V.str "drop", V.str "copied", V.str "view", V.str "letgo", V.str "start", V.str "region", V.str "thing", V.str "named", V.str "seen", V.str "viewed"]) na
    refine ⟨_, rfl, by show 11 ≤ sizeLine; decide, fun b nb => ?_⟩
    have s2 := SameN (o := .lst [V.int 2, V.int 1, V.int 0, V.int 1, V.int 1, V.int 3, V.int 1, V.int 4, V.int 2, V.int 1, V.int 3]) nb
    refine ⟨a, b, _, _, rfl, .of (s2 _ _ upd_same), .of upd_same, rfl, ?_⟩
    intro H' p ts h' np _ _ hp hts
    rw [words_zip] at hts
    obtain ⟨e1, e2⟩ := paired_lr hts
    refine q H' p (ts.map V.ref) (s1.trans (s2.trans h')) ((s1.trans s2).free np) hp ⟨by rw [List.length_map, e1, List.length_map], fun i j ej => ?_⟩
    obtain ⟨x, h1, h2⟩ := e2 i (wp j) (by rw [List.getElem?_map, ej]; rfl)
    exact ⟨.ref x, by rw [List.getElem?_map, h1]; rfl, x, rfl, h2⟩
def spLRec : Sp := fun vs H Q _ => ∃ (n cl : Addr) (cs : List Int) (T : Int), vs = [.ref n] ∧ Nk H n cl cs T ∧ T ≤ 800000 ∧
  ∀ (H' : Hp) (p : Addr) (r : Rc), Nk H' n cl cs (T + 9) → H' p = some (.tup r.vals) → r.good → Stp (isN n) (isN n) H H' → Q (.ref p) H'
theorem ok_lrec (T : Ev K mg) : OkF P w K mg base CX0 3 "_law_record" ["_law_nook_here"] spLRec := by
  obtain ⟨fd, F, b⟩ := T.ds_law_record
  obtain ⟨f1, G1, b1, k1⟩ := ok_pick (P := P) (w := w) (base := base) T
  obtain ⟨f2, G2, b2, k2⟩ := ok_words (P := P) (w := w) (base := base) T
  obtain ⟨f3, G3, b3, k3⟩ := ok_reach (P := P) (w := w) (base := base) T
  refine ⟨fd, FunD.ok F cs_law_record ?_ ?_, b, F.kp⟩
  · rintro vs H Q E ⟨n, cl, cs, T, rfl, _⟩; rfl
  · rintro cdv A outer s H vs Q E hr ⟨n, cl, cs, Tn, rfl, hnk, hT, q⟩
    refine ⟨_, pss_cons (ps_asg (pe_call G1 hr rfl T.g_law_pick k1 b1 .nil pass0 (pa_cons (pv 0) (pa_cons (pe_call0 G2 (hr.mono (by decide)) rfl T.g_law_words k2 b2 .nil pass0) pa_nil))) (pg_tup rfl (pgs_cons (pg_name (i := 1) cs_law_record.nd rfl (Or.inl rfl)) (pgs_cons (pg_name (i := 2) cs_law_record.nd rfl (Or.inl rfl)) pgs_nil))))
      (pss_one (ps_ret (pe_op op_catA (pe_tup (pa_cons (pv 1) pa_nil)) (pe_callTy call_tuple_of (by rfl) T.f_tuple (by decide +kernel) (pa_cons
        (pe_lc (own := [("_law_turn", 3)]) (g := gName 3) (tt := tYes) rfl cs_law_record.nd (pi_range1 (by rfl) T.f_range (pa_cons (pv 2) pa_nil)) (blkOk_by (N := ["_law_nook_here", "_law_word", "_law_many", "_law_turn"]) (sc := defScope s_law_record) (by decide +kernel)) (fun _ _ _ _ _ => pg_name (i := 3) cs_law_record.nd rfl (Or.inl rfl)) (fun _ _ _ _ _ => pts_nil)
          (fun _ _ _ _ _ => pe_call G1 hr rfl T.g_law_pick k1 b1 .nil pass0 (pa_cons (pv 0) (pa_cons (pe_lst (pa_cons pe_int (pa_cons pe_int (pa_cons pe_int (pa_cons (pe_op op_sub (pe_op op_pow pe_int pe_int) pe_int) (pa_cons (pe_call G3 (hr.mono (by decide)) rfl T.g_law_reach k3 b3 .nil pass0 (pa_cons (pv 0) (pa_cons (pe_op op_pow pe_int pe_int) pa_nil))) pa_nil)))))) pa_nil)))) pa_nil))))), ?_⟩
    refine ⟨_, rfl, rfl, ?_⟩
    intro H1 l us h1 nl hl hus
    obtain ⟨t0, l0, nk0, _⟩ := hnk.ex
    have ln : l ≠ n := (nne nk0.lst nl).symm
    refine ⟨n, cl, cs, Tn, l, us, rfl, hnk.same h1, by omega, hl, ln, by rw [hus.1]; decide, by rw [hus.1]; decide, ?_⟩
    intro H2 i v hv hnk2 st2
    obtain ⟨j, ej, t, rfl, ht⟩ := lr_at hus hv
    have hj : j < 11 := List.mem_range.mp (List.mem_of_getElem? ej)
    have ht2 := st2.tup _ _ ht
    refine ⟨t, _, rfl, .of ht2, rfl, _, _, rfl, _, _, rfl, rfl, ?_⟩
    refine ⟨_, rfl, by show 1 ≤ sizeLine; decide, fun a na => ?_⟩
    have s3 := SameN (o := .tup [.str (wd j)]) na
    have hn4 := nm_le j
    refine ⟨_, rfl, _, rfl, by omega, by omega, fun D nD => ?_⟩
    have nkH3 := hnk2.same s3
    obtain ⟨t3, l3, nk3, _⟩ := nkH3.ex
    have nDn : D ≠ n := (nne nk3.lst nD).symm
    refine lc_range (lo := 0) (n := ((nm j : Nat) : Int).toNat) (fun i H' => Stp (isN n) (isN n) (upd H2 a (.tup [.str (wd j)])) H' ∧ Nk H' n cl cs (Tn + 1 + 2 * i) ∧ ∃ zs : List Int, H' D = some (.lst (zs.map V.int)) ∧ zs.length = i ∧ ∀ z ∈ zs, 0 ≤ z ∧ z ≤ 9223372036854775807) ?_ ?_ ?_
    · refine ⟨stp_put (stp_same (Same.refl _)) nD, ?_, [], upd_same, rfl, fun z hz => by simp at hz⟩
      exact (nkH3.same (SameN nD)).mono (by omega)
    · rintro i H4 hi ⟨st4, nk4, zs, hD4, hzl, hz⟩
      have hi4 : i < 4 := by omega
      simp only [tYes, ↓reduceIte]
      refine ⟨rfl, _, rfl, 2, 63, rfl, rfl, ⟨by decide, by decide, by decide⟩, _, 1, rfl, rfl, _, rfl, 10, 6, rfl, rfl, ⟨by decide, by decide, by decide⟩, n, cl, cs, _, _, rfl, nk4, by omega, by decide, by decide, ?_⟩
      intro H5 r nk5 r0 r1 st5
      have r1 : r < 1000000 := r1
      refine ⟨by show 5 ≤ sizeLine; decide, fun sl nsl => ?_⟩
      have s6 := SameN (o := .lst [.int 0, .int 1, .int 12, .int (2 ^ (63 : Int).toNat - 1), .int r]) nsl
      obtain ⟨t5, l5, nk5', _⟩ := nk5.ex
      refine ⟨n, cl, cs, _, sl, _, rfl, nk5.same s6, by omega, upd_same, (nne nk5'.lst nsl).symm, by show 0 < 5; decide, by show 5 ≤ 1000; decide, ?_⟩
      intro H7 k v hv7 nk7 st7
      have hD7 : H7 D = some (.lst (zs.map V.int)) := st7.keep _ _ (s6 _ _ (st5.keep _ _ hD4 nDn)) nDn
      obtain ⟨z, rfl, z0, z1⟩ : ∃ z : Int, v = .int z ∧ 0 ≤ z ∧ z ≤ 9223372036854775807 := by
        have hm := List.mem_of_getElem? hv7
        simp only
            [List.mem_cons, List.not_mem_nil, or_false] at hm
        rcases hm with e | e | e | e | e
        · exact ⟨0, e, by decide, by decide⟩
        · exact ⟨1, e, by decide, by decide⟩
        · exact ⟨12, e, by decide, by decide⟩
        · exact ⟨_, e, by decide, by decide⟩
        · exact ⟨r, e, r0, by omega⟩
      refine ⟨zs.map V.int, hD7, small1000 (by rw [List.length_map]; omega), ?_, ?_, zs ++ [z], ?_, by rw [List.length_append, hzl]; rfl, fun z' hz' => ?_⟩
      · exact stp_put (st4.trans (st5.trans ((stp_same s6).trans st7))) nD
      · refine (nk7.keep fun b o hb e => ?_).mono (by omega)
        rw [upd_ne (fun z => ?_)]
        · exact e
        · rw [z] at hb
          rcases hb with hb | hb
          · exact nDn hb
          · obtain ⟨t7, l7, nk7', _⟩ := nk7.ex
            have := nk3.cel
            rw [← hb, nD] at this
            cases this
      · rw [upd_same, List.map_append]
        rfl
      · rcases List.mem_append.mp hz' with e | e
        · exact hz z' e
        · rw [List.mem_singleton.mp e]; exact ⟨z0, z1⟩
    · rintro H4 ⟨st4, nk4, zs, hD4, hzl, hz⟩
      refine ⟨D, _, rfl, .inl ⟨.of hD4, fun tp ntp => ?_⟩⟩
      have s5 := SameN (o := .tup (zs.map V.int)) ntp
      have ha5 := s5 _ _ (st4.tup _ _ (upd_same (H := H2) (a := a) (o := .tup [.str (wd j)])))
      have hr : (Rc.mk j zs).good := ⟨hj, by rw [hzl]; exact Int.toNat_natCast _, hz⟩
      have stA : Stp (isN n) (isN n) H (upd H4 tp (.tup (zs.map V.int))) := (stp_same h1).trans (st2.trans ((stp_same s3).trans (st4.trans (stp_same s5))))
      have nkA : Nk (upd H4 tp (.tup (zs.map V.int))) n cl cs (Tn + 9) := (nk4.same s5).mono (by omega)
      refine ⟨a, tp, [.str (wd j)], zs.map V.int, rfl, rfl, .of ha5, .of upd_same, ?_, fun z => (List.cons_ne_nil _ _ z).elim, fun _ z => ?_, fun _ _ p np => ?_⟩
      · have : (16 : Nat) ≤ sizeLine := by decide
        rw [List.length_map]
        simp only [List.length_singleton]
        omega
      · refine q _ a (Rc.mk j zs) nkA ?_ hr stA
        rw [ha5]
        show some (HO.tup [V.str (wd j)]) = some (HO.tup (V.str (wd j) :: zs.map V.int))
        rw [z]
      · have s6 := SameN (o := .tup ([.str (wd j)] ++ zs.map V.int)) np
        exact q _ p (Rc.mk j zs) (nkA.same s6) upd_same hr (stA.trans (stp_same s6))
theorem row_iff {c0 c1 c2 c3 c4 : Int} {ww k : Nat} (hw : (ww : Int) = c0 - 1) (hk : k ≤ 4) : (Rc.mk ww ([c1, c2, c3, c4].take k)).cells = [c0, c1, c2, c3, c4] ↔ ([c0, c1, c2, c3, c4].drop (1 + k) : List Int) = List.replicate (4 - k) 0 := by
  have e0 : (ww : Int) + 1 = c0 := by omega
  have ec : (Rc.mk ww ([c1, c2, c3, c4].take k)).cells = c0 :: ([c1, c2, c3, c4].take k ++ List.replicate (4 - k) 0) := by
    unfold Rc.cells
    rw [show ((Rc.mk ww ([c1, c2, c3, c4].take k)).w : Int) + 1 = c0 from e0]
    show c0 :: ([c1, c2, c3, c4].take k ++ List.replicate (4 - ([c1, c2, c3, c4].take k).length) 0) = _
    rw [List.length_take, show min k [c1, c2, c3, c4].length = k from Nat.min_eq_left hk]
  have ed : ([c0, c1, c2, c3, c4].drop (1 + k) : List Int) = [c1, c2, c3, c4].drop k := by rw [Nat.add_comm]; rfl
  rw [ec, ed]
  constructor
  · intro h
    injection h with _ h
    have h2 : [c1, c2, c3, c4].take k ++ List.replicate (4 - k) 0 = [c1, c2, c3, c4].take k ++ [c1, c2, c3, c4].drop k := h.trans (List.take_append_drop k _).symm
    exact (List.append_cancel_left h2).symm
  · intro h
    rw [← h, List.take_append_drop]
def spLRow (K : PySem.W.Frag) : Sp := fun vs H Q _ => ∃ (a : Addr) (l : List Int), vs = [.ref a] ∧ SqL K H a (l.map V.int) ∧ l.length = 5 ∧
  (recAt l = none → ∀ H', Same H H' → Q .non H') ∧ ∀ r, recAt l = some r → ∀ H' p, Same H H' → H' p = some (.tup r.vals) → Q (.ref p) H'
theorem ok_lrow (T : Ev K mg) : OkF P w K mg base CX0 2 "_law_row" ["_law_cells"] (spLRow K) := by
  obtain ⟨fd, F, b⟩ := T.ds_law_row
  obtain ⟨f2, G2, b2, k2⟩ := ok_words (P := P) (w := w) (base := base) T
  refine ⟨fd, FunD.ok F cs_law_row ?_ ?_, b, F.kp⟩
  · rintro vs H Q E ⟨a, l, rfl, _⟩; rfl
  · rintro cdv A outer s H vs Q E hr ⟨a, l, rfl, ha, hl, q1, q2⟩
    refine ⟨_, pss_cons (ps_par (i := 1) (j := 2) (by rfl) cs_law_row.nd rfl rfl (by decide) rfl rfl (pa_cons (pe_ix ix_list (pv 0) pe_int (fun _ _ => rfl)) (pa_cons (pe_op op_cat (pe_call0 G2 hr rfl T.g_law_words k2 b2 .nil pass0) (pe_lst (pa_cons (pe_tup (pa_cons pe_str (pa_cons pe_int pa_nil))) pa_nil))) pa_nil)) (by rfl))
      (pss_cons (ps_if (pt_not (pt_chain op_le op_le pe_int (pv 1) pe_int)) (pss_one (ps_ret pe_non)) pss_nil)
      (pss_cons (ps_asg (pe_ix ix_list (pv 2) (pe_op op_sub (pv 1) pe_int) (fun _ _ => rfl)) (pg_tup rfl (pgs_cons (pg_name (i := 3) cs_law_row.nd rfl (Or.inl rfl)) (pgs_cons (pg_name (i := 4) cs_law_row.nd rfl (Or.inl rfl)) pgs_nil))))
      (pss_one (ps_ret (pe_ifExp (pt_cmpR (op_eqD hr.units) (pe_slice sl_list (pv 0) (po_some (pe_op op_add pe_int (pv 4))) po_none) (pe_op op_rep (pe_lst (pa_cons pe_int pa_nil)) (pe_op op_sub pe_int (pv 4))) (nomark _))
        (pe_op op_catA (pe_tup (pa_cons (pv 3) pa_nil)) (pe_callTy call_tuple_of (by rfl) T.f_tuple (by decide +kernel) (pa_cons (pe_slice sl_list (pv 0) (po_some pe_int) (po_some (pe_op op_add pe_int (pv 4)))) pa_nil))) pe_non))))), ?_⟩
    match l, hl with
    | [c0, c1, c2, c3, c4], _ =>
    refine ⟨_, rfl, a, _, 0, _, rfl, rfl, ha, at0, rfl, ?_⟩
    intro H1 l1 us h1 nl1 hl1 hus
    refine ⟨by show 2 ≤ sizeLine; decide, fun tw ntw => ?_⟩
    have s2 := SameN (o := .tup [.str "whole", .int 0]) ntw
    refine ⟨by show 1 ≤ sizeLine; decide, fun l2 nl2 => ?_⟩
    have s3 := SameN (o := .lst [.ref tw]) nl2
    have hus3 := lr_mono hus fun i v hv => wr_same s3 i v (wr_same s2 i v hv)
    have hW : LR (WR (upd (upd H1 tw (.tup [.str "whole", .int 0])) l2 (.lst [.ref tw]))) (us ++ [.ref tw]) (List.range 11 ++ [11]) := lr_snoc hus3 ⟨tw, rfl, s3 _ _ upd_same⟩
    have hul : us.length = 11 := hus.1
    refine ⟨l1, l2, us, _, rfl, rfl, s3 _ _ (s2 _ _ hl1), upd_same, Nat.le_trans (by rw [hul]; exact Nat.le_refl 12) (by decide), fun l3 nl3 => ?_⟩
    have s4 := SameN (o := .lst (us ++ [.ref tw])) nl3
    generalize hH4 : upd (upd (upd H1 tw (.tup [.str "whole", .int 0])) l2 (.lst [.ref tw])) l3 (.lst (us ++ [.ref tw])) = H4 at s4
    have hl4 : H4 l3 = some (.lst (us ++ [.ref tw])) := by rw [← hH4]; exact upd_same
    have sH4 : Same H H4 := h1.trans (s2.trans (s3.trans s4))
    have hW4 := lr_mono hW (wr_same s4)
    have ha4 := sH4.seq ha
    refine ⟨_, _, rfl, _, rfl, 1, c0, rfl, rfl, _, rfl, ?_⟩
    by_cases h1c : 1 ≤ c0
    rotate_left
    · rw [decide_eq_false h1c]
      refine iteF ⟨false, rfl, iteT (q1 ?_ H4 sH4)⟩
      unfold recAt
      exact if_neg fun z => h1c z.1
    rw [decide_eq_true h1c]
    refine iteT ⟨c0, 12, rfl, rfl, _, rfl, ?_⟩
    by_cases h2c : c0 ≤ 12
    rotate_left
    · rw [decide_eq_false h2c]
      refine iteT (q1 ?_ H4 sH4)
      unfold recAt
      exact if_neg fun z => h2c z.2
    rw [decide_eq_true h2c]
    refine iteF ?_
    obtain ⟨ww, hw⟩ : ∃ ww : Nat, ww = (c0 - 1).toNat := ⟨_, rfl⟩
    have en : (ww : Int) = c0 - 1 := by omega
    have hlt : ww < 12 := by omega
    have er : (List.range 11 ++ [11])[ww]? = some ww := by
      have : List.range 11 ++ [11] = List.range 12 := rfl
      rw [this, List.getElem?_range hlt]
    obtain ⟨v, ev, t, rfl, ht⟩ := hW4.2 ww ww er
    have iW := atI_nat ev
    rw [en] at iW
    have hn4 := nm_le ww
    refine ⟨_, rfl, _, rfl, c0, 1, rfl, rfl, l3, _, _, _, rfl, rfl, .of hl4, iW, t, _, rfl, .of ht, rfl, _, _, rfl, _, _, rfl, rfl, ?_⟩
    have e1n : (1 : Int) + (nm ww : Int) = ((1 + nm ww : Nat) : Int) := by omega
    have eC : cutV ([c0, c1, c2, c3, c4].map V.int) (some ((1 + nm ww : Nat) : Int)) none = ([c0, c1, c2, c3, c4].drop (1 + nm ww)).map V.int := by
      rw [List.map_drop]
      exact cut_from _ _
    refine ⟨_, rfl, _, rfl, 1, _, rfl, rfl, _, congrArg V.int e1n, a, _, rfl, ha4, fun p5 np5 => ?_⟩
    rw [eC]
    have np5 : H4 p5 = none := np5
    have s5 := SameN (o := .lst (([c0, c1, c2, c3, c4].drop (1 + nm ww)).map V.int)) np5
    refine ⟨by show 1 ≤ sizeLine; decide, fun z6 nz6 => ?_⟩
    have s6 := SameN (o := .lst [.int 0]) nz6
    have ek : ((4 : Int) - (nm ww : Int)).toNat = 4 - nm ww := by omega
    refine ⟨_, rfl, 4, _, rfl, rfl, z6, _, _, rfl, rfl, upd_same, by omega, by omega, ?_, fun z7 nz7 => ?_⟩
    · have : (16 : Nat) ≤ sizeLine := by decide
      rw [ek]
      simp only [List.length_singleton]
      omega
    have s7 := SameN (o := .lst (List.replicate ((4 : Int) - (nm ww : Int)).toNat [V.int 0]).flatten) nz7
    have d1 := (s6.trans s7) _ _ (upd_same (H := H4) (a := p5) (o := .lst (([c0, c1, c2, c3, c4].drop (1 + nm ww)).map V.int)))
    have d2 : upd (upd (upd H4 p5 (.lst (([c0, c1, c2, c3, c4].drop (1 + nm ww)).map V.int))) z6 (.lst [.int 0])) z7 (.lst (List.replicate ((4 : Int) - (nm ww : Int)).toNat [V.int 0]).flatten) z7 = some (.lst ((List.replicate (4 - nm ww) (0 : Int)).map V.int)) := upd_same.trans (by rw [flat_rep, ek])
    generalize hH7 : upd (upd (upd H4 p5 (.lst (([c0, c1, c2, c3, c4].drop (1 + nm ww)).map V.int))) z6 (.lst [.int 0])) z7 (.lst (List.replicate ((4 : Int) - (nm ww : Int)).toNat [V.int 0]).flatten) = H7 at d1 d2
    have sH7 : Same H H7 := by
      rw [← hH7]
      exact sH4.trans (s5.trans (s6.trans s7))
    refine ⟨_, _, .lst (.of d1) (dp_ints _), .lst (.of d2) (dp_ints _), PySem.W.ke_shaped_ints _, PySem.W.ke_shaped_ints _, _, rfl, ?_⟩
    have eqv : PyData.eqv (.list (([c0, c1, c2, c3, c4].drop (1 + nm ww)).map PyData.int)) (.list ((List.replicate (4 - nm ww) (0 : Int)).map PyData.int)) = decide (([c0, c1, c2, c3, c4].drop (1 + nm ww) : List Int) = List.replicate (4 - nm ww) 0) := by
      have e : PyData.eqv (.list (([c0, c1, c2, c3, c4].drop (1 + nm ww)).map PyData.int)) (.list ((List.replicate (4 - nm ww) (0 : Int)).map PyData.int)) = PyData.eqvAll (([c0, c1, c2, c3, c4].drop (1 + nm ww)).map PyData.int) ((List.replicate (4 - nm ww) (0 : Int)).map PyData.int) := by simp only [PyData.eqv]
      rw [e, PySem.W.ked_eqvAll]
    rw [eqv]
    have eR : recAt [c0, c1, c2, c3, c4] = if (Rc.mk ww ([c1, c2, c3, c4].take (nm ww))).cells = [c0, c1, c2, c3, c4] then some (Rc.mk ww ([c1, c2, c3, c4].take (nm ww))) else none := by
      unfold recAt
      rw [if_pos ⟨h1c, h2c⟩]
      rw [hw]
      rfl
    by_cases hc : ([c0, c1, c2, c3, c4].drop (1 + nm ww) : List Int) = List.replicate (4 - nm ww) 0
    rotate_left
    · rw [decide_eq_false hc]
      rw [if_neg fun z => hc ((row_iff en hn4).mp z)] at eR
      exact iteF (q1 eR H7 sH7)
    rw [decide_eq_true hc]
    rw [if_pos ((row_iff en hn4).mpr hc)] at eR
    have eC2 : cutV ([c0, c1, c2, c3, c4].map V.int) (some 1) (some ((1 + nm ww : Nat) : Int)) = ([c1, c2, c3, c4].take (nm ww)).map V.int := by
      refine (cut_mid _ 1 (1 + nm ww)).trans ?_
      rw [show 1 + nm ww - 1 = nm ww by omega, List.map_take]
      rfl
    refine iteT ⟨_, rfl, by show 1 ≤ sizeLine; decide, fun a8 na8 => ?_⟩
    have s8 := SameN (o := .tup [.str (wd ww)]) na8
    refine ⟨_, rfl, 1, rfl, _, rfl, 1, _, rfl, rfl, _, congrArg V.int e1n, a, _, rfl, (sH7.trans s8).seq ha, fun p9 np9 => ?_⟩
    rw [eC2]
    have np9 : upd H7 a8 (.tup [.str (wd ww)]) p9 = none := np9
    have s9 := SameN (o := .lst (([c1, c2, c3, c4].take (nm ww)).map V.int)) np9
    refine ⟨p9, _, rfl, .inl ⟨.of upd_same, fun t10 nt10 => ?_⟩⟩
    have s10 := SameN (o := .tup (([c1, c2, c3, c4].take (nm ww)).map V.int)) nt10
    have ha10 := s10 _ _ (s9 _ _ (upd_same (H := H7) (a := a8) (o := .tup [.str (wd ww)])))
    have sH10 := sH7.trans (s8.trans (s9.trans s10))
    refine ⟨a8, t10, [.str (wd ww)], _, rfl, rfl, .of ha10, .of upd_same, ?_, fun z => (List.cons_ne_nil _ _ z).elim, fun _ z => ?_, fun _ _ p np => ?_⟩
    · have : (16 : Nat) ≤ sizeLine := by decide
      rw [List.length_map, List.length_take]
      simp only [List.length_singleton, List.length_cons, List.length_nil]
      omega
    · refine q2 _ eR _ a8 sH10 ?_
      rw [ha10]
      show some (HO.tup [V.str (wd ww)]) = some (HO.tup (V.str (wd ww) :: ([c1, c2, c3, c4].take (nm ww)).map V.int))
      rw [z]
    · exact q2 _ eR _ p (sH10.trans (SameN np)) upd_same
end
end PB

/-! the law's own reading of a track -/
namespace PB
open PySem PySem.Spec PyProof.Rows L2
theorem paired_same {K : PySem.W.Frag} {H H' : Hp} (e : Same H H') : ∀ {ps : List Addr} {kvs : List (Key × V)}, Paired (fun p kv => SqT K H p [kV kv.1, kv.2]) ps kvs → Paired (fun p kv => SqT K H' p [kV kv.1, kv.2]) ps kvs
  | _, _, .nil => .nil
  | _, _, .cons a t => .cons (s_tup e a) (paired_same e t)
section
variable
    {P : Program} {w : World} {K : PySem.W.Frag} {mg : Str → Option Value} {base : Heap}
def spLTrack (K : PySem.W.Frag) : Sp := fun vs H Q _ => ∃ (p : Addr) (D : Dk) (t B : Nat), vs = [.ref p, .int t] ∧ DiskAt K H p D ∧ (t = 1 ∨ t = 2) ∧ Trk (D.F t) t B ∧ B ≤ 190 ∧
  ∀ (H' : Hp) (tp fl : Addr) (us : List V) (m : Int) (R : List Rc), Same H H' → H' tp = some (.tup [.int m, .ref fl]) → H' fl = some (.lst us) → LR (RecR H') us R → RowsRes (D.F t) t m R → Q (.ref tp) H'
theorem ok_ltrack (T : Ev K mg) : OkF P w K mg base CX0 6 "_law_track" ["_law_disk", "_law_track_here"] (spLTrack K) := by
  obtain ⟨fd, F, b⟩ := T.ds_law_track
  obtain ⟨f1, G1, b1, k1⟩ := ok_lrow (P := P) (w := w) (base := base) T
  obtain ⟨f2, G2, b2⟩ := ok_kept (P := P) (w := w) (base := base) T
  refine ⟨fd, FunD.ok F cs_law_track ?_ ?_, b, F.kp⟩
  · rintro vs H Q E ⟨p, D, t, B, rfl, _⟩; rfl
  · rintro cdv A outer s H vs Q E hr ⟨p, D, t, B, rfl, h, ht, trk, hB, q⟩
    refine ⟨_, pss_cons (ps_asg (pe_tup (pa_cons (pe_callTy (call_dictP rfl) (by rfl) T.f_dict (by decide +kernel) (pa_cons (pe_callTy call_list_of (by rfl) T.f_list (by decide +kernel) (pa_cons (pe_meth (pv 0) T.c_Disk T.mD_kept G2 hr b2 .nil pass0 (pa_cons (pv 1) pa_nil)) pa_nil)) pa_nil)) (pa_cons (pe_lst pa_nil) pa_nil)))
        (pg_tup rfl (pgs_cons (pg_name (i := 2) cs_law_track.nd rfl (Or.inr rfl)) (pgs_cons (pg_name (i := 3) cs_law_track.nd rfl (Or.inl rfl)) pgs_nil))))
      (pss_cons (ps_set (i := 4) cs_law_track.nd rfl (Or.inl rfl) (pe_dget2 (hu_of hr) (pv 2) pe_int pe_int ⟨rfl, rfl, rfl, rfl⟩))
      (pss_cons (ps_if (PW.pt (pw_or (pt_cmpR op_eq (pv 4) pe_int (nomark _)) (pw_or1 (pt_cmpR op_ne (pe_op op_odd (pv 4) pe_int) (pe_op op_sub (pv 1) pe_int) (nomark _))))) (pss_one (ps_ret (pe_tup (pa_cons pe_int (pa_cons (pe_lst pa_nil) pa_nil))))) pss_nil)
      (pss_cons (ps_for (passes_of rfl) rfl (pi_range1 rfl T.f_range (pa_cons pe_int pa_nil)) (pg_name (i := 5) cs_law_track.nd rfl (Or.inr rfl))
        (pss_cons (ps_set (i := 6) cs_law_track.nd rfl (Or.inl rfl) (pe_call G1 (hr.mono (by decide)) rfl T.g_law_row k1 b1 .nil pass0 (pa_cons
          (pe_lc (own := [("_law_at", 7)]) (g := gName 7) (tt := tYes) rfl cs_law_track.nd (pi_range2 rfl T.f_range (pa_cons pe_int (pa_cons pe_int pa_nil))) (blkOk_by (N := ["_law_disk", "_law_track_here", "_law_cells", "_law_rows", "_law_mark", "_law_k", "_law_row_here", "_law_at"]) (sc := defScope s_law_track) (by decide +kernel)) (fun _ _ _ _ _ => pg_name (i := 7) cs_law_track.nd rfl (Or.inl rfl)) (fun _ _ _ _ _ => pts_nil)
            (fun _ _ _ _ _ => pe_dget2 (hu_of hr) (pv 2) (pe_op op_add (pe_op op_mul pe_int (pv 5)) (pv 7)) pe_int ⟨rfl, rfl, rfl, rfl⟩)) pa_nil)))
        (pss_cons (ps_if (PW.pt (pw_or (pt_cmpR op_ne (pe_dget2 (hu_of hr) (pv 2) (pe_op op_mul pe_int (pv 5)) pe_int ⟨rfl, rfl, rfl, rfl⟩) (pv 4) (nomark _)) (pw_or1 (pt_cmpR op_isN (pv 6) pe_non (nomark _))))) (pss_one ps_break) pss_nil)
        (pss_one (ps_expr (pe_bm PySem.F.plainAttrs_list PySem.F.slot_list_append PySem.F.type_list_append mt_append (pv 3) (pa_cons (pv 6) pa_nil)))))))
      (pss_one (ps_ret (pe_tup (pa_cons (pv 4) (pa_cons (pv 3) pa_nil)))))))), ?_⟩
    have ht3 : t < 3 := by omega
    have f0 : 0 ≤ D.F t 0 := by simpa using trk.lo 0
    generalize hf : D.F t = f at trk f0 q
    refine ⟨_, rfl, p, _, _, rfl, h.obj, rfl, _, rfl, p, D, t, rfl, h, ht3, ?_⟩
    intro H1 tp o ys h1 ntp htp ho hpairs
    rw [hf] at hpairs
    obtain ⟨ps, kvs, rfl, hp, tr⟩ := hpairs.trep (K := K)
    refine ⟨tp, _, rfl, .inr (.inl (.inr ⟨o, htp⟩)), fun l nl => ?_⟩
    have s2 := SameN (o := .lst (ps.map V.ref)) nl
    refine ⟨l, ps, kvs, rfl, .of upd_same, ?_, fun d nd => ?_⟩
    · exact paired_same s2 hp
    have s3 := SameN (o := .dK (mergeK [] kvs)) nd
    refine ⟨Nat.zero_le _, fun fl nfl => ⟨by show 2 ≤ sizeLine; decide, fun tq ntq => ?_⟩⟩
    have s4 := SameN (o := .lst []) nfl
    have s5 := SameN (o := .tup [.ref d, .ref fl]) ntq
    refine ⟨tq, _, rfl, .of upd_same, rfl, _, _, rfl, _, _, rfl, rfl, ?_⟩
    have hd5 := s5 _ _ (s4 _ _ (upd_same (H := upd H1 l (.lst (ps.map V.ref))) (a := d) (o := .dK (mergeK [] kvs))))
    have hfl5 := s5 _ _ (upd_same (H := upd (upd H1 l (.lst (ps.map V.ref))) d (.dK (mergeK [] kvs))) (a := fl) (o := .lst []))
    have sA : Same H (upd (upd (upd H1 l (.lst (ps.map V.ref))) d (.dK (mergeK [] kvs))) fl (.lst [])) := h1.trans (s2.trans (s3.trans s4))
    have sB := sA.trans s5
    have nflH : H fl = none := (h1.trans (s2.trans s3)).free nfl
    have nflx : fl ≠ d := fun z => by rw [z, upd_same] at nfl; cases nfl
    generalize hH5 : upd (upd (upd (upd H1 l (.lst (ps.map V.ref))) d (.dK (mergeK [] kvs))) fl (.lst [])) tq (.tup [.ref d, .ref fl]) = H5 at hd5 hfl5 sB
    refine ⟨_, rfl, d, rfl, .inl ⟨_, .of hd5⟩, _, DGet.k (k := Sum.inl 0) hd5, ?_⟩
    rw [tr.val 0]
    have fin0 : (f 0 = 0 ∨ tk (f 0) ≠ t) → ((Nat.zero ≤ sizeLine ∧ ∀ l : Addr, H5 l = none → 2 ≤ sizeLine ∧ ∀ p', upd H5 l (.lst []) p' = none → Q (.ref p') (upd (upd H5 l (.lst [])) p' (.tup [.int 0, .ref l])))) := fun hc => by
      refine ⟨Nat.zero_le _, fun l nl => ⟨by decide, fun p' np' => ?_⟩⟩
      have s6 := SameN (o := .lst []) nl
      have s7 := SameN (o := .tup [.int 0, .ref l]) np'
      exact q _ p' l [] 0 [] (sB.trans (s6.trans s7)) upd_same (s7 _ _ upd_same) lr_nil (.inl ⟨hc, rfl, rfl⟩)
    refine ⟨_, rfl, rfl, _, rfl, ite2 (fun hc => ?_) fun hc => ?_⟩
    · have hc : f 0 = 0 := by
        have := of_decide_eq_true hc
        injection this
      exact iteT (fin0 (.inl hc))
    have h0 : f 0 ≠ 0 := fun z => hc (decide_eq_true (congrArg V.int z))
    obtain ⟨m, em⟩ : ∃ m : Nat, (m : Int) = f 0 := ⟨(f 0).toNat, Int.toNat_of_nonneg f0⟩
    have etk : tk (f 0) = 1 + m % 2 := by
      unfold tk
      rw [← em]
      omega
    refine ⟨_, rfl, m, congrArg V.int em.symm, rfl, _, rfl, t, 1, rfl, rfl, rfl, _, rfl, ?_⟩
    by_cases htk : tk (f 0) = t
    rotate_left
    · rw [ne_vint (show ((m % 2 : Nat) : Int) ≠ (t : Int) - 1 by omega)]
      exact iteT (fin0 (.inr htk))
    rw [Bool.eq_false_iff.mpr (eq_vint (show ((m % 2 : Nat) : Int) = (t : Int) - 1 by omega))]
    refine iteF ?_
    have dne : d ≠ fl := fun z => nflx z.symm
    refine ⟨200, rfl, by decide, by decide, ?_⟩
    refine for_range (lo := 0) (n := 200) (fun i σ H' => (∃ x5 x6 x7, σ = [some (.ref p), some (.int t), some (.ref d), some (.ref fl), some (.int (f 0)), x5, x6, x7]) ∧ Same H H' ∧ H' d = some (.dK (mergeK [] kvs)) ∧ ∃ us rs, H' fl = some (.lst us) ∧ LR (RecR H') us rs ∧ rs.length = i ∧
      ∀ (j : Nat) (r : Rc), rs[j]? = some r → f (6 * j) = f 0 ∧ r.ok ∧ rowAt f j = r.cells) ?_ ?_ ?_
    · exact ⟨⟨_, _, _, rfl⟩, sB, hd5, [], [], hfl5, lr_nil, rfl, fun j r e => by simp at e⟩
    · rintro i σ H6 hi ⟨⟨x5, x6, x7, rfl⟩, h6, hd6, us, rs, hfl6, hrel, hlen, hrows⟩
      refine ⟨1, 6, rfl, ⟨by decide, by decide, by decide, by decide⟩, fun Dl nD => ?_⟩
      refine lc_plain (walk_range (lo := 1) (n := 5)) ((rowAt f i).map V.int) rfl (by decide) nD (fun _ _ => trivial) ?_ ?_
      · rintro j x H7 H8 z hj hS hz ⟨rfl, rfl⟩ R hR
        have ez : z = .int (f (6 * (0 + (i : Int)) + (1 + (j : Int)))) := by
          have hj5 : j < 5 := hj
          match j, hj5 with
          | 0, _ => exact (Option.some.inj hz).symm.trans (congrArg (fun k => V.int (f k)) (by omega))
          | 1, _ => exact (Option.some.inj hz).symm.trans (congrArg (fun k => V.int (f k)) (by omega))
          | 2, _ => exact (Option.some.inj hz).symm.trans (congrArg (fun k => V.int (f k)) (by omega))
          | 3, _ => exact (Option.some.inj hz).symm.trans (congrArg (fun k => V.int (f k)) (by omega))
          | 4, _ => exact (Option.some.inj hz).symm.trans (congrArg (fun k => V.int (f k)) (by omega))
        have hd8 := hS _ _ hd6
        refine ⟨rfl, _, rfl, d, rfl, .inl ⟨_, .of hd8⟩, _, rfl, 6, _, rfl, rfl, .inl ⟨by decide, by decide⟩, _, rfl, _, _, rfl, rfl, _, DGet.k (k := Sum.inl (6 * (0 + (i : Int)) + (1 + (j : Int)))) hd8, ?_⟩
        rw [tr.val]
        rw [ez] at hR
        exact hR _ (Same.refl _)
      · intro H7 h7 hDl
        have hd7 := h7 _ _ hd6
        have hfl7 := h7 _ _ hfl6
        have key : f (6 * (0 + (i : Int))) = f (6 * (i : Int)) := congrArg f (by omega)
        have stopQ : ∀ (H9 : Hp) (p' : Addr), Same H7 H9 → (f (6 * (rs.length : Nat)) ≠ f 0 ∨ recAt (rowAt f rs.length) = none) → H9 p' = none → Q (.ref p') (upd H9 p' (.tup [.int (f 0), .ref fl])) := fun H9 p' h9 hc np => by
          have s9 := SameN (o := .tup [.int (f 0), .ref fl]) np
          exact q _ p' fl us (f 0) rs (h6.trans (h7.trans (h9.trans s9))) upd_same (s9 _ _ (h9 _ _ hfl7)) (lr_mono hrel (rec_same (h7.trans (h9.trans s9)))) (.inr ⟨h0, htk, rfl, hrows, hc⟩)
        refine ⟨Dl, rowAt f i, rfl, .of hDl, rfl, fun hn H8 h8 => ?_, fun r hrec H8 p8 h8 hp8 => ?_⟩
        · have hd8 := h8 _ _ hd7
          refine ⟨_, rfl, d, rfl, .inl ⟨_, .of hd8⟩, _, rfl, 6, _, rfl, rfl, .inl ⟨by decide, by decide⟩, _, DGet.k (k := Sum.inl (6 * (0 + (i : Int)))) hd8, ?_⟩
          rw [tr.val, key]
          rw [← hlen] at hn
          refine ⟨_, rfl, rfl, _, rfl, ite2 (fun hc => iteT ?_) fun hc => ?_⟩
          · exact ⟨_, rfl, _, rfl, by show 2 ≤ sizeLine; decide, fun p' np => stopQ H8 p' h8 (.inr hn) np⟩
          · exact ⟨_, rfl, rfl, true, rfl, iteT ⟨_, rfl, _, rfl, by show 2 ≤ sizeLine; decide, fun p' np => stopQ H8 p' h8 (.inr hn) np⟩⟩
        · have hd8 := h8 _ _ hd7
          refine ⟨_, rfl, d, rfl, .inl ⟨_, .of hd8⟩, _, rfl, 6, _, rfl, rfl, .inl ⟨by decide, by decide⟩, _, DGet.k (k := Sum.inl (6 * (0 + (i : Int)))) hd8, ?_⟩
          rw [tr.val, key]
          refine ⟨_, rfl, rfl, _, rfl, ite2 (fun hc => iteT ?_) fun hc => ?_⟩
          · refine ⟨_, rfl, _, rfl, by show 2 ≤ sizeLine; decide, fun p' np => stopQ H8 p' h8 (.inl fun z => ?_) np⟩
            rw [hlen] at z
            exact eq_vint z hc
          · refine ⟨_, rfl, rfl, false, rfl, iteF ?_⟩
            have eg : f (6 * (i : Int)) = f 0 := Classical.byContradiction fun z => hc (ne_vint z)
            have hfl8 := h8 _ _ hfl7
            refine ⟨_, rfl, .inl ⟨rfl, _, .of hfl8⟩, _, rfl, fl, us, _, rfl, rfl, hfl8, small1000 (by rw [hrel.1]; omega), ?_⟩
            have nl := n_upd (ys := us ++ [.ref p8]) hfl8
            refine ⟨⟨_, _, _, rfl⟩, s_put (h6.trans (h7.trans h8)) nflH, (upd_ne dne).trans hd8, _, rs ++ [r], upd_same, lr_snoc (lr_mono (lr_mono hrel (rec_same (h7.trans h8))) (rec_nl nl)) ⟨p8, rfl, nl _ _ (fun _ z => nomatch z) hp8⟩, by rw [List.length_append, hlen]; rfl, fun j r' e => ?_⟩
            by_cases hj : j < rs.length
            · rw [List.getElem?_append_left hj] at e
              exact hrows j r' e
            · have h2' := (List.getElem?_eq_some_iff.mp e).1
              rw [List.length_append, List.length_singleton] at h2'
              have ej : j = rs.length := by omega
              rw [ej, List.getElem?_append_right (Nat.le_refl _)] at e
              have er : r = r' := by simpa using e
              subst er
              obtain ⟨o1, o2⟩ := recAt_some rfl hrec
              rw [ej, hlen]
              exact ⟨eg, o1, o2⟩
    · rintro σ H6 ⟨_, _, _, us, rs, _, _, hlen, hrows⟩
      have e199 : rs[199]? = some (rs[199]'(by omega)) := List.getElem?_eq_getElem (by omega)
      have := (hrows 199 _ e199).1
      rw [trk.far 199 (by omega)] at this
      exact absurd this.symm h0
end
end PB

/-! the law's own reading of a disk -/
namespace PB
open PySem PySem.Spec PyProof.Rows L2
def behind : List Rc → List Rc
  | [] => []
  | r :: rs => if r = whole then rs else behind rs
theorem behind_at : ∀ (pre post : List Rc), whole ∉ pre → behind (pre ++ whole :: post) = post
  | [], post, _ => if_pos rfl
  | r :: pre, post, h => by
    have h1 : r ≠ whole := fun z => h (by rw [z]; exact List.mem_cons_self)
    show (if r = whole then pre ++ whole :: post else behind (pre ++ whole :: post)) = post
    rw [if_neg h1]
    exact behind_at pre post fun z => h (List.mem_cons_of_mem _ z)
abbrev Fnd := Int × List Rc × Nat
def stepF (s : Fnd) (b : Int × List Rc) : Fnd := if whole ∈ b.2 ∧ s.1 < b.1 then (b.1, noWhole b.2, (noWhole (behind b.2)).length) else s
theorem read_pick {F : Nat → Int → Int} {g : Int} {rs more R1 R2 : List Rc} {B : Nat} {m1 m2 : Int} (h : BkSt F g rs more B) (r1 : RowsRes (F 1) 1 m1 R1) (r2 : RowsRes (F 2) 2 m2 R2) :
    [(m1, R1), (m2, R2)].foldl stepF (0, [], 0) = (g, rs ++ more, more.length) := by
  have hall : ∀ (m : Int), 0 < g → m = g → (m, noWhole (allRows g rs more), (noWhole (behind (allRows g rs more))).length) = (g, rs ++ more, more.length) := fun m hg em => by
    have e1 : allRows g rs more = rs ++ whole :: more := by
      unfold allRows
      rw [if_neg (by omega)]
    have e2 : behind (allRows g rs more) = more := by
      rw [e1]
      exact behind_at _ _ fun z => (h.good _ (List.mem_append_left _ z)).ne rfl
    rw [noWhole_all h, e2, noWhole_good fun r hr => h.good r (List.mem_append_right rs hr), em]
  show stepF (stepF (0, [], 0) (m1, R1)) (m2, R2) = _
  rcases count_pick h r1 r2 with ⟨hg, n1, n2⟩ | ⟨hg, hm, hR, w1, h2lt⟩ | ⟨hg, hm, hR, w2, h1lt⟩
  · have e1 : stepF (0, [], 0) (m1, R1) = (0, [], 0) := if_neg fun z => n1 z.1
    have e2 : stepF (0, [], 0) (m2, R2) = (0, [], 0) := if_neg fun z => n2 z.1
    rw [e1, e2, hg, (h.zero hg).1, (h.zero hg).2]
    rfl
  · have e1 : stepF (0, [], 0) (m1, R1) = (m1, noWhole R1, (noWhole (behind R1)).length) := if_pos ⟨w1, by show 0 < m1; omega⟩
    rw [e1]
    have e2 : stepF (m1, noWhole R1, (noWhole (behind R1)).length) (m2, R2) = (m1, noWhole R1, (noWhole (behind R1)).length) := if_neg fun z => by
      have := h2lt z.1
      have z2 : m1 < m2 := z.2
      omega
    rw [e2, hR]
    exact hall m1 hg hm
  · have e2 : ∀ s : Fnd, s.1 < m2 → stepF s (m2, R2) = (m2, noWhole R2, (noWhole (behind R2)).length) := fun s hs => if_pos ⟨w2, hs⟩
    rw [e2]
    · rw [hR]
      exact hall m2 hg hm
    · by_cases w1 : whole ∈ R1
      · have := (rows_whole h (.inl rfl) r1 w1).2.1
        have e1 : stepF (0, [], 0) (m1, R1) = (m1, noWhole R1, (noWhole (behind R1)).length) := if_pos ⟨w1, this⟩
        rw [e1, hm]
        exact h1lt w1
      · have e1 : stepF (0, [], 0) (m1, R1) = (0, [], 0) := if_neg fun z => w1 z.1
        rw [e1, hm]
        exact hg
/-- what is found so far -/
def Fd (H : Hp) (tf : Addr) (s : Fnd) : Prop := ∃ tk us, H tf = some (.tup [.int s.1, .ref tk, .int s.2.2]) ∧ H tk = some (.tup us) ∧ LR (RecR H) us s.2.1
theorem fd_same {H H' : Hp} {tf : Addr} {s : Fnd} (e : Same H H') (h : Fd H tf s) : Fd H' tf s := let ⟨tk, us, h1, h2, h3⟩ := h; ⟨tk, us, e _ _ h1, e _ _ h2, lr_mono h3 (rec_same e)⟩
abbrev tNeW (K : PySem.W.Frag) (i : Nat) : TT := tTest (tOp (rNeD K) (tVar i) (tTup (tCons (tC (.str "whole")) tNil)))
theorem lc_noWhole {K : PySem.W.Frag} {a : Addr} {us : List V} {rs : List Rc} {i : Nat} {σ : L2.St} {H1 : Hp} {D : Addr} {Qd : Hp → Prop} (hi : i < σ.length) (ha : SqL K H1 a us) (hrel : LR (RecR H1) us rs) (hok : ∀ r ∈ rs, r.ok) (hlen : rs.length ≤ 1000) (nD : H1 D = none)
    (hd : ∀ H ac, Same H1 H → H D = some (.lst ac) → LR (RecR H) ac (noWhole rs) → Qd H) : LcGoal (Itl K a) (gName i) (tNeW K i) (tVar i) [i] σ H1 D Qd := by
  refine lc_list (K := K) (a := a) (xs := us) (fun k H' => Same H1 H' ∧ ∃ ac, H' D = some (.lst ac) ∧ LR (RecR H') ac (noWhole (rs.take k)) ∧ ac.length ≤ k) ?_ ?_ ?_ ?_
  · exact ⟨SameN nD, [], upd_same, lr_nil, Nat.zero_le _⟩
  · rintro k H' _ ⟨h', _⟩
    exact h'.seq ha
  · rintro k x H2 hx ⟨h2, ac, hD2, hac, hacl⟩
    obtain ⟨r, er, hr2⟩ := lr_at hrel hx
    have hk : k < rs.length := (List.getElem?_eq_some_iff.mp er).1
    obtain ⟨aa, rfl, haa⟩ := rec_same h2 _ _ hr2
    have hrok := hok r (List.mem_of_getElem? er)
    have hg : (((wipe σ [i]).set i (some (.ref aa)))[i]?) = some (some (.ref aa)) := by
      rw [List.getElem?_set_self]
      show i < (σ.set i none).length
      rw [List.length_set]
      exact hi
    refine ⟨?_, _, hg, by show 1 ≤ sizeLine; decide, fun t nt => ?_⟩
    · show ((σ.set i none).set i (some (.ref aa))).set i none = σ.set i none
      rw [List.set_set, List.set_set]
    have s3 := SameN (o := .tup [.str "whole"]) nt
    refine ⟨_, _, dp_rec (.of (s3 _ _ haa)), dp_rec (r := whole) (.of upd_same), dat_shaped _, dat_shaped _, _, rfl, ?_⟩
    rw [dat_eqv hrok whole_ok, take_snoc er]
    unfold noWhole
    rw [List.filter_append]
    have hac3 := lr_mono hac (rec_same s3)
    have hD3 := s3 _ _ hD2
    by_cases c : r = whole
    · rw [decide_eq_true c]
      have e1 : [r].filter (fun r => !decide (r = whole)) = [] := by simp [c]
      rw [e1, List.append_nil]
      exact iteF ⟨h2.trans s3, ac, hD3, hac3, by omega⟩
    · rw [decide_eq_false c]
      have e1 : [r].filter (fun r => !decide (r = whole)) = [r] := by simp [c]
      rw [e1]
      exact iteT ⟨_, hg, ac, hD3, small1000 (by omega), s_put (h2.trans s3) nD, _, upd_same, lr_snoc (lr_mono hac3 (rec_nl (n_upd hD3))) ⟨aa, rfl, n_upd hD3 _ _ (fun _ z => nomatch z) (s3 _ _ haa)⟩, by rw [List.length_append, List.length_singleton]; omega⟩
  · rintro H2 ⟨h2, ac, hD2, hac, _⟩
    rw [hrel.1, List.take_length] at hac
    exact hd H2 ac h2 hD2 hac
section
variable
    {P : Program} {w : World} {K : PySem.W.Frag} {mg : Str → Option Value} {base : Heap}
def spLRead (K : PySem.W.Frag) : Sp := fun vs H Q _ => ∃ (p : Addr) (D : Dk) (g : Int) (rs more : List Rc) (B : Nat), vs = [.ref p] ∧ DiskAt K H p D ∧ BkSt D.F g rs more B ∧ B ≤ 190 ∧
  ∀ (H' : Hp) (tf : Addr), Same H H' → Fd H' tf (g, rs ++ more, more.length) → Q (.ref tf) H'
theorem ok_lread (T : Ev K mg) : OkF P w K mg base CX0 7 "_law_read" ["_law_disk"] (spLRead K) := by
  obtain ⟨fd, F, b⟩ := T.ds_law_read
  obtain ⟨f1, G1, b1, k1⟩ := ok_ltrack (P := P) (w := w) (base := base) T
  refine ⟨fd, FunD.ok F cs_law_read ?_ ?_, b, F.kp⟩
  · rintro vs H Q E ⟨p, D, g, rs, more, B, rfl, _⟩; rfl
  · rintro cdv A outer s H vs Q E hr ⟨p, D, g, rs, more, B, rfl, h, hb, hB, q⟩
    refine ⟨_, pss_cons (ps_set (i := 1) cs_law_read.nd rfl (Or.inl rfl) (pe_tup (pa_cons pe_int (pa_cons (pe_tup pa_nil) (pa_cons pe_int pa_nil)))))
      (pss_cons (ps_for (passes_of rfl) rfl (pi_tup (pe_tup (pa_cons pe_int (pa_cons pe_int pa_nil)))) (pg_name (i := 2) cs_law_read.nd rfl (Or.inl rfl))
        (pss_cons (ps_asg (pe_call G1 hr rfl T.g_law_track k1 b1 .nil pass0 (pa_cons (pv 0) (pa_cons (pv 2) pa_nil))) (pg_tup rfl (pgs_cons (pg_name (i := 3) cs_law_read.nd rfl (Or.inl rfl)) (pgs_cons (pg_name (i := 4) cs_law_read.nd rfl (Or.inl rfl)) pgs_nil))))
        (pss_one (ps_if (PW.pt (pw_and (pt_cmpR (op_inD (hu65 hr)) (pe_tup (pa_cons pe_str pa_nil)) (pv 4) (by rfl)) (pw_and1 (pt_cmpR op_gt (pv 3) (pe_ix ix_tup (pv 1) pe_int (fun _ _ => rfl)) (nomark _)))))
          (pss_cons (ps_set (i := 5) cs_law_read.nd rfl (Or.inl rfl) (pe_slice sl_list (pv 4) (po_some (pe_op op_add (pe_bm PySem.F.plainAttrs_list PySem.F.slot_list_index PySem.F.type_list_index (mt_indexD (hu65 hr)) (pv 4) (pa_cons (pe_tup (pa_cons pe_str pa_nil)) pa_nil)) pe_int)) po_none))
          (pss_cons (ps_set (i := 6) cs_law_read.nd rfl (Or.inl rfl) (pe_callTy call_tuple_of (by rfl) T.f_tuple (by decide +kernel) (pa_cons
            (pe_lc (own := [("_law_row_here", 7)]) (g := gName 7) (tt := tNeW K 7) rfl cs_law_read.nd (pi_list (pv 4)) (blkOk_by (N := ["_law_disk", "_law_found", "_law_track_here", "_law_mark", "_law_rows", "_law_behind", "_law_kept", "_law_row_here"]) (sc := defScope s_law_read) (by decide +kernel)) (fun _ _ _ _ _ => pg_name (i := 7) cs_law_read.nd rfl (Or.inl rfl))
              (fun _ _ _ _ _ => pts_one (pt_cmpR (op_neD hr.units) (pv 7) (pe_tup (pa_cons pe_str pa_nil)) (nomark _))) (fun _ _ _ _ _ => pv 7)) pa_nil)))
          (pss_one (ps_set (i := 1) cs_law_read.nd rfl (Or.inl rfl) (pe_tup (pa_cons (pv 3) (pa_cons (pv 6) (pa_cons (pe_callB call_len_seq (by rfl) T.f_len PySem.boot_len (pa_cons
            (pe_lc (own := [("_law_row_here", 7)]) (g := gName 7) (tt := tNeW K 7) rfl cs_law_read.nd (pi_list (pv 5)) (blkOk_by (N := ["_law_disk", "_law_found", "_law_track_here", "_law_mark", "_law_rows", "_law_behind", "_law_kept", "_law_row_here"]) (sc := defScope s_law_read) (by decide +kernel)) (fun _ _ _ _ _ => pg_name (i := 7) cs_law_read.nd rfl (Or.inl rfl))
              (fun _ _ _ _ _ => pts_one (pt_cmpR (op_neD hr.units) (pv 7) (pe_tup (pa_cons pe_str pa_nil)) (nomark _))) (fun _ _ _ _ _ => pv 7)) pa_nil)) pa_nil)))))))) pss_nil))))
      (pss_one
          (ps_ret (pv 1)))), ?_⟩
    refine ⟨Nat.zero_le _, fun te nte => ⟨by show 3 ≤ sizeLine; decide, fun tf0 ntf => ?_⟩⟩
    have s1 := SameN (o := .tup []) nte
    have s2 := SameN (o := .tup [.int 0, .ref te, .int 0]) ntf
    refine ⟨by show 2 ≤ sizeLine; decide, fun tt ntt => ?_⟩
    have s3 := SameN (o := .tup [.int 1, .int 2]) ntt
    have fd0 : Fd (upd (upd (upd H te (.tup [])) tf0 (.tup [.int 0, .ref te, .int 0])) tt (.tup [.int 1, .int 2])) tf0 (0, [], 0) := fd_same s3 ⟨te, [], upd_same, s2 _ _ upd_same, lr_nil⟩
    have sH := s1.trans (s2.trans s3)
    generalize hH3 : upd (upd (upd H te (.tup [])) tf0 (.tup [.int 0, .ref te, .int 0])) tt (.tup [.int 1, .int 2]) = H3 at fd0 sH
    have htt : H3 tt = some (.tup [.int 1, .int 2]) := by rw [← hH3]; exact upd_same
    refine ⟨tt, rfl, ⟨_, .of htt⟩, ?_⟩
    refine for_tup (K := K) (a := tt) (xs := [.int 1, .int 2]) (fun i σ H' => Same H3 H' ∧ ∃ (tf : Addr) (bs : List (Int × List Rc)), (∃ x2 x3 x4 x5 x6 x7, σ = [some (.ref p), some (.ref tf), x2, x3, x4, x5, x6, x7]) ∧ bs.length = i ∧ (∀ (j : Nat) (b : Int × List Rc), bs[j]? = some b → RowsRes (D.F (j + 1)) (j + 1) b.1 b.2) ∧ Fd H' tf (bs.foldl stepF (0, [], 0))) ?_ ?_ ?_ ?_
    · exact ⟨Same.refl _, tf0, [], ⟨_, _, _, _, _, _, rfl⟩, rfl, fun j b e => by simp at e, fd0⟩
    · rintro i σ H' _ ⟨h', _⟩
      exact .of (h' _ _ htt)
    · rintro i x σ H4 hx ⟨h4, tf, bs, ⟨x2, x3, x4, x5, x6, x7, rfl⟩, hlen, hrr, hfd⟩
      have hi2 : i < 2 := (List.getElem?_eq_some_iff.mp hx).1
      have ex : x = .int ((i + 1 : Nat) : Int) := by
        match i, hi2, hx with
        | 0, _, hx => exact (Option.some.inj hx).symm
        | 1, _, hx => exact (Option.some.inj hx).symm
      subst ex
      have ht : i + 1 = 1 ∨ i + 1 = 2 := by omega
      have sH4 := sH.trans h4
      refine ⟨_, rfl, _, rfl, p, D, i + 1, B, rfl, h.same sH4, ht, hb.trk _ ht, hB, ?_⟩
      intro H5 tp fl us m R h5 htp hfl hus hres
      refine ⟨tp, _, rfl, .of htp, rfl, _, _, rfl, _, _, rfl, rfl, ?_⟩
      have hrr' : ∀ (j : Nat) (b : Int × List Rc), (bs ++ [(m, R)])[j]? = some b → RowsRes (D.F (j + 1)) (j + 1) b.1 b.2 := fun j b e => by
        by_cases hj : j < bs.length
        · rw [List.getElem?_append_left hj] at e
          exact hrr j b e
        · have h2' := (List.getElem?_eq_some_iff.mp e).1
          rw [List.length_append, List.length_singleton] at h2'
          have ej : j = bs.length := by omega
          rw [ej, List.getElem?_append_right (Nat.le_refl _)] at e
          have eb : (m, R) = b := by simpa using e
          rw [ej, ← eb, hlen]
          exact hres
      have efold : (bs ++ [(m, R)]).foldl stepF (0, [], 0) = stepF (bs.foldl stepF (0, [], 0)) (m, R) := by rw [List.foldl_append]; rfl
      generalize hs : bs.foldl stepF (0, [], 0) = st at hfd efold
      have hok := res_ok hres
      have hRl : R.length ≤ 900 := by
        rcases hres with ⟨_, _, e⟩ | ⟨e1, _, _, e⟩
        · rw [e]; exact Nat.zero_le _
        · refine Nat.not_lt.mp fun lt => ?_
          have e900 : R[900]? = some R[900] := List.getElem?_eq_getElem lt
          have := (e.at_ 900 _ e900).1
          rw [(hb.trk _ ht).far 900 (by omega)] at this
          exact e1 this.symm
      have done : ∀ (H6 : Hp) (tf' : Addr) (x2' x3' x4' x5' x6' x7' : Option V), Same H5 H6 → Fd H6 tf' (stepF st (m, R)) → Same H3 H6 ∧ ∃ (tf : Addr) (bs : List (Int × List Rc)), (∃ x2 x3 x4 x5 x6 x7, [some (V.ref p), some (V.ref tf'), x2', x3', x4', x5', x6', x7'] = [some (.ref p), some (.ref tf), x2, x3, x4, x5, x6, x7]) ∧ bs.length = i + 1 ∧ (∀ (j : Nat) (b : Int × List Rc), bs[j]? = some b → RowsRes (D.F (j + 1)) (j + 1) b.1 b.2) ∧ Fd H6 tf (bs.foldl stepF (0, [], 0)) := fun H6 tf' _ _ _ _ _ _ h6 hf =>
        ⟨h4.trans (h5.trans h6), tf', bs ++ [(m, R)], ⟨_, _, _, _, _, _, rfl⟩, by rw [List.length_append, hlen]; rfl, hrr', by rw [efold]; exact hf⟩
      refine ⟨by show 1 ≤ sizeLine; decide, fun tw ntw => ?_⟩
      have s6 := SameN (o := .tup [.str "whole"]) ntw
      have hfl6 := s6 _ _ hfl
      have hus6 := lr_mono hus (rec_same s6)
      refine ⟨_, rfl, whole.dat, _, dp_rec (r := whole) (.of upd_same), .lst (.of hfl6) (dp_recs hus6), dat_shaped _, dats_shaped _, _, rfl, ?_⟩
      rw [has_whole hok]
      by_cases hw : whole ∈ R
      rotate_left
      · rw [decide_eq_false hw]
        refine iteF (iteF (done _ tf _ _ _ _ _ _ s6 ?_))
        rw [show stepF st (m, R) = st from if_neg fun z => hw z.1]
        exact fd_same (h5.trans s6) hfd
      rw [decide_eq_true hw]
      have hfd6 := fd_same (h5.trans s6) hfd
      obtain ⟨tk6, us6, etf, _, _⟩ := id hfd6
      refine iteT ⟨_, rfl, _, rfl, tf, _, 0, _, rfl, rfl, .of etf, at0, m, st.1, rfl, rfl, _, rfl, ite2 (fun hc => ?_) fun hc => ?_⟩
      rotate_left
      · refine done _ tf _ _ _ _ _ _ s6 ?_
        rw [show stepF st (m, R) = st from if_neg fun z => hc (decide_eq_true z.2)]
        exact hfd6
      have hlt : st.1 < m := of_decide_eq_true hc
      obtain ⟨pre, post, eR, npre⟩ := List.eq_append_cons_of_mem hw
      have ebeh : behind R = post := by rw [eR]; exact behind_at _ _ npre
      have hds : (R.map Rc.dat)[pre.length]? = some whole.dat := by
        rw [eR, List.getElem?_map, List.getElem?_append_right (Nat.le_refl _), Nat.sub_self]
        rfl
      generalize hH6 : upd H5 tw (.tup [.str "whole"]) = H6 at s6 hfl6 hus6 hfd6 etf
      refine ⟨_, rfl, _, rfl, .inl ⟨rfl, _, .of hfl6⟩, by show 1 ≤ sizeLine; decide, fun tw2 ntw2 => ?_⟩
      have s7 := SameN (o := .tup [.str "whole"]) ntw2
      have hfl7 := s7 _ _ hfl6
      have hus7 := lr_mono hus6 (rec_same s7)
      refine ⟨fl, _, whole.dat, _, pre.length, whole.dat, rfl, rfl, .lst (.of hfl7) (dp_recs hus7), dp_rec (r := whole) (.of upd_same), dats_shaped _, dat_shaped _, hds, ?_, ?_, ?_⟩
      · rw [dat_eqv whole_ok whole_ok]
        exact decide_eq_true rfl
      · intro k z' hk hz
        rw [eR, List.getElem?_map, List.getElem?_append_left hk] at hz
        obtain ⟨r, er, rfl⟩ := Option.map_eq_some_iff.mp hz
        have hrm := List.mem_of_getElem? er
        rw [dat_eqv (hok r (by rw [eR]; exact List.mem_append_left _ hrm)) whole_ok]
        exact decide_eq_false fun z => npre (z ▸ hrm)
      have ej : ((pre.length : Nat) : Int) + 1 = ((pre.length + 1 : Nat) : Int) := rfl
      refine ⟨_, 1, rfl, rfl, ((pre.length + 1 : Nat) : Int), rfl, fl, us, rfl, .of hfl7, fun l8 nl8 => ?_⟩
      have ec : cutV us (some ((pre.length + 1 : Nat) : Int)) none = us.drop (pre.length + 1) := cut_from _ _
      rw [ec]
      have nl8 : upd H6 tw2 (.tup [.str "whole"]) l8 = none := nl8
      have s8 := SameN (o := .lst (us.drop (pre.length + 1))) nl8
      have hus8 := lr_mono hus7 (rec_same s8)
      have hdr : LR (RecR (upd (upd H6 tw2 (.tup [.str "whole"])) l8 (.lst (us.drop (pre.length + 1))))) (us.drop (pre.length + 1)) post := by
        have := lr_drop hus8 (pre.length + 1)
        have e : R.drop (pre.length + 1) = post := by
          rw [eR, show pre ++ whole :: post = (pre ++ [whole]) ++ post by simp]
          rw [show pre.length + 1 = (pre ++ [whole]).length by simp, List.drop_left]
        rw [e] at this
        exact this
      have hl8 : upd (upd H6 tw2 (.tup [.str "whole"])) l8 (.lst (us.drop (pre.length + 1))) l8 = some (.lst (us.drop (pre.length + 1))) := upd_same
      generalize hH8 : upd (upd H6 tw2 (.tup [.str "whole"])) l8 (.lst (us.drop (pre.length + 1))) = H8 at s8 hus8 hdr hl8
      have hfl8 := s8 _ _ hfl7
      have okpost : ∀ r ∈ post, r.ok := fun r hr => hok r (by rw [eR]; exact List.mem_append_right _ (List.mem_cons_of_mem _ hr))
      have hpl : post.length ≤ 900 := by rw [eR, List.length_append, List.length_cons] at hRl; omega
      refine ⟨_, rfl, fl, rfl, ⟨_, .of hfl8⟩, fun D9 nD9 => ?_⟩
      refine lc_noWhole (i := 7) (by show 7 < 8; decide) (.of hfl8) hus8 hok (by omega) nD9 ?_
      intro H9 ac h9 hD9 hac
      refine ⟨D9, _, rfl, .inl ⟨.of hD9, fun tk10 ntk10 => ?_⟩⟩
      have s10 := SameN (o := .tup ac) ntk10
      have hac10 := lr_mono hac (rec_same s10)
      have htk10 : upd H9 tk10 (.tup ac) tk10 = some (.tup ac) := upd_same
      generalize hH10 : upd H9 tk10 (.tup ac) = H10 at s10 hac10 htk10
      refine ⟨_, rfl, _, rfl, _, rfl, l8, rfl, ⟨_, .of (s10 _ _ (h9 _ _ hl8))⟩, fun D11 nD11 => ?_⟩
      refine lc_noWhole (i := 7) (by show 7 < 8; decide) (.of (s10 _ _ (h9 _ _ hl8))) (lr_mono hdr (rec_same (h9.trans s10))) okpost (by omega) nD11 ?_
      intro H11 ac2 h11 hD11 hac2
      refine ⟨D11, _, rfl, .inl (.of hD11), by show 3 ≤ sizeLine; decide, fun tf12 ntf12 => ?_⟩
      have s12 := SameN (o := .tup [.int m, .ref tk10, .int (ac2.length : Nat)]) ntf12
      refine done _ tf12 _ _ _ _ _ _ (s6.trans (s7.trans (s8.trans (h9.trans (s10.trans (h11.trans s12)))))) ?_
      rw [show stepF st (m, R) = (m, noWhole R, (noWhole (behind R)).length) from if_pos ⟨hw, hlt⟩, ebeh, ← hac2.1]
      exact ⟨tk10, ac, upd_same, s12 _ _ (h11 _ _ htk10), lr_mono hac10 (rec_same (h11.trans s12))⟩
    · rintro σ H4 ⟨h4, tf, bs, ⟨x2, x3, x4, x5, x6, x7, rfl⟩, hlen, hrr, hfd⟩
      obtain ⟨b1, b2, rfl⟩ : ∃ b1 b2, bs = [b1, b2] := by
        match bs, hlen with
        | [b1, b2], _ => exact ⟨b1, b2, rfl⟩
      obtain ⟨m1, R1⟩ := b1
      obtain ⟨m2, R2⟩ := b2
      rw [read_pick hb (hrr 0 _ rfl) (hrr 1 _ rfl)] at hfd
      exact ⟨_, rfl, q H4 tf (sH.trans h4) hfd⟩
end
end PB

/-! what repr asks; the law's lot -/
namespace PB
open PySem PySem.Spec PyProof.Rows L2
/-- data that repr can show -/
structure ShowOk (d : PyData) : Prop where
  s : d.showable = true
  h : d.hasDict = false
  p : d.depth ≤ 60
  l : d.shown.length ≤ sizeLine
theorem show_of {d : PyData} (hc : d.canLay0 = true) (hs : d.showable = true) (hd : d.depth ≤ 60) (hi : d.intsShort 20 = true) (hw : d.weight ≤ 100000) : ShowOk d := by
  refine ⟨hs, PyData.hasDict_of_canLay d hc, hd, ?_⟩
  have h1 := PyData.shown_le 20 (by decide) d (PyData.leavesShort_of_canLay0 20 d hc hi)
  have h2 : (2300000 : Nat) ≤ sizeLine := by decide
  omega
theorem int_show {i : Int} (h0 : 0 ≤ i) (h1 : i ≤ 9223372036854775807) : (PyData.shown (.int i)).length ≤ 20 ∧ i.natAbs.log2 < 64 := by
  constructor
  · have t : (10 : Nat) ^ 19 = 10000000000000000000 := by decide
    have e := int_text_length_le10 (a := i) (k := 19) (by decide) (by omega)
    show (Str.ofString (toString i)).length ≤ 20
    rw [PySem.ofString_length]
    omega
  · by_cases h : i.natAbs = 0
    · rw [h]
      decide
    · rw [Nat.log2_lt h]
      have : (2 : Nat) ^ 64 = 18446744073709551616 := by decide
      omega
theorem ints_ok : ∀ {ns : List Int}, (∀ n ∈ ns, 0 ≤ n ∧ n ≤ 9223372036854775807) → PyData.showableAll (ns.map .int) = true ∧ PyData.intsShortAll 20 (ns.map .int) = true ∧ PyData.weightAll (ns.map .int) ≤ 66 * ns.length
  | [], _ => ⟨by simp only [List.map_nil, PyData.showableAll], by simp only [List.map_nil, PyData.intsShortAll], by simp only [List.map_nil, PyData.weightAll]; exact Nat.zero_le _⟩
  | n :: ns, h => by
    obtain ⟨a, b, c⟩ := ints_ok (ns := ns) fun m hm => h m (List.mem_cons_of_mem _ hm)
    obtain ⟨n0, n1⟩ := h n List.mem_cons_self
    obtain ⟨e, f⟩ := int_show n0 n1
    refine ⟨?_, ?_, ?_⟩
    · simp only [List.map_cons, PyData.showableAll, PyData.showable, Bool.and_eq_true, decide_eq_true_eq]
      exact ⟨by omega, a⟩
    · simp only [List.map_cons, PyData.intsShortAll, PyData.intsShort, Bool.and_eq_true, decide_eq_true_eq]
      exact ⟨e, b⟩
    · simp only [List.map_cons, PyData.weightAll, PyData.weight, List.length_cons]
      split <;> omega
theorem wd_size (i : Nat) : (wd i).cps.size ≤ 8 := by
  by_cases h : i < 12
  · exact (by decide +kernel : ∀ i < 12, (wd i).cps.size ≤ 8) i h
  · unfold wd
    rw [List.getD_eq_getElem?_getD, List.getElem?_eq_none (by show 12 ≤ i; omega)]
    exact Nat.zero_le _
theorem dat_ok {r : Rc} (h : r.good) : r.dat.showable = true ∧ r.dat.intsShort 20 = true ∧ r.dat.weight ≤ 300 := by
  obtain ⟨a, b, c⟩ := ints_ok h.ns
  have hn := nm_le r.w
  have hl := h.len
  have hw := wd_size r.w
  refine ⟨?_, ?_, ?_⟩
  · simp only [Rc.dat, PyData.showable, PyData.showableAll, a, Bool.and_self]
  · simp only [Rc.dat, PyData.intsShort, PyData.intsShortAll, b, Bool.and_self]
  · simp only [Rc.dat, PyData.weight, PyData.weightAll]
    omega
theorem dats_ok : ∀ {rs : List Rc}, (∀ r ∈ rs, r.good) → PyData.showableAll (rs.map Rc.dat) = true ∧ PyData.intsShortAll 20 (rs.map Rc.dat) = true ∧ PyData.weightAll (rs.map Rc.dat) ≤ 301 * rs.length
  | [], _ => ⟨by simp only [List.map_nil, PyData.showableAll], by simp only [List.map_nil, PyData.intsShortAll], by simp only [List.map_nil, PyData.weightAll]; exact Nat.zero_le _⟩
  | r :: rs, h => by
    obtain ⟨a, b, c⟩ := dats_ok (rs := rs) fun m hm => h m (List.mem_cons_of_mem _ hm)
    obtain ⟨d, e, f⟩ := dat_ok (h r List.mem_cons_self)
    refine ⟨?_, ?_, ?_⟩
    · simp only [List.map_cons, PyData.showableAll, d, a, Bool.and_self]
    · simp only [List.map_cons, PyData.intsShortAll, e, b, Bool.and_self]
    · simp only [List.map_cons, PyData.weightAll, List.length_cons]
      omega
theorem recs_show {rs : List Rc} (h : ∀ r ∈ rs, r.good) (hl : rs.length ≤ 300) : ShowOk (.tuple (rs.map Rc.dat)) := by
  obtain ⟨a, b, c⟩ := dats_ok h
  refine show_of ?_ ?_ ?_ ?_ ?_
  · simp only [PyData.canLay0]; exact dats_lay rs
  · simp only [PyData.showable]; exact a
  · have := dats_depth rs
    simp only [PyData.depth]
    omega
  · simp only [PyData.intsShort]; exact b
  · simp only [PyData.weight]; omega
theorem two_show {a b : Int} (ha : 0 ≤ a) (ha1 : a ≤ 1000) (hb : 0 ≤ b) (hb1 : b ≤ 1000) : ShowOk (.list [.int a, .int b]) := by
  obtain ⟨x, y, z⟩ := ints_ok (ns := [a, b]) fun n hn => by
    rcases List.mem_cons.mp hn with e | e
    · omega
    · rw [List.mem_singleton.mp e]; omega
  refine show_of ?_ ?_ ?_ ?_ ?_
  · simp only [PyData.canLay0]; exact PySem.W.ke_canLayAll0 [a, b]
  · simp only [PyData.showable]; exact x
  · have := PySem.W.ke_depthAll [a, b]
    simp only [List.map_cons, List.map_nil] at this
    simp only [PyData.depth, this]
    decide
  · simp only [PyData.intsShort]; exact y
  · simp only [PyData.weight]
    simp only [List.map_cons, List.map_nil, List.length_cons, List.length_nil] at z
    omega
theorem rg_list (k : Nat) : rgV 0 (k : Int) = ((List.range k).map fun i : Nat => (0 : Int) + i).map V.int := by
  unfold rgV
  rw [List.map_map, show ((k : Int) - 0).toNat = k by omega]
  rfl
theorem rg_lot {k m : Nat} (h : k ≤ m) : LotOk ((List.range k).map fun i : Nat => (0 : Int) + i) m := by
  refine ⟨fun x hx => ?_, fun i x y hx hy => ?_, by rw [List.length_map, List.length_range]; exact h⟩
  · obtain ⟨j, hj, rfl⟩ := List.mem_map.mp hx
    have := List.mem_range.mp hj
    omega
  · rw [List.getElem?_map] at hx hy
    obtain ⟨j, hj, rfl⟩ := Option.map_eq_some_iff.mp hx
    obtain ⟨j', hj', rfl⟩ := Option.map_eq_some_iff.mp hy
    obtain ⟨a, b⟩ := List.getElem?_eq_some_iff.mp hj
    obtain ⟨a', b'⟩ := List.getElem?_eq_some_iff.mp hj'
    rw [List.getElem_range] at b b'
    omega
theorem lot_nil {m : Nat} : LotOk [] m := ⟨fun x hx => by simp at hx, fun i x y hx => by simp at hx, Nat.zero_le _⟩
theorem lot_one {m : Nat} {c : Int} (h0 : 0 ≤ c) (h1 : c < m) : LotOk [c] m := by
  refine ⟨fun x hx => by rw [List.mem_singleton.mp hx]; exact ⟨h0, h1⟩, fun i x y hx hy => ?_, by show 1 ≤ m; omega⟩
  have := (List.getElem?_eq_some_iff.mp hy).1
  simp at this
theorem lot_snoc {m : Nat} {ns : List Int} (h : LotOk ns m) : LotOk (ns ++ [(m : Int)]) (m + 1) := by
  refine ⟨fun x hx => ?_, fun i x y hx hy => ?_, by rw [List.length_append, List.length_singleton]; have := h.len; omega⟩
  · rcases List.mem_append.mp hx with e | e
    · have := h.b x e
      omega
    · rw
          [List.mem_singleton.mp e]
      omega
  · have hy1 := (List.getElem?_eq_some_iff.mp hy).1
    rw [List.length_append, List.length_singleton] at hy1
    rw [List.getElem?_append_left (by omega)] at hx
    by_cases c : i + 1 < ns.length
    · rw [List.getElem?_append_left c] at hy
      exact h.up i x y hx hy
    · have e : i + 1 = ns.length := by omega
      rw [e, List.getElem?_append_right (Nat.le_refl _)] at hy
      have ey : (m : Int) = y := by simpa using hy
      rw [← ey]
      exact (h.b x (List.mem_of_getElem? hx)).2
theorem LotOk.mono {m m' : Nat} {ns : List Int} (h : LotOk ns m) (e : m ≤ m') : LotOk ns m' := ⟨fun x hx => by have := h.b x hx; omega, h.up, by have := h.len; omega⟩
section
variable
    {P : Program} {w : World} {K : PySem.W.Frag} {mg : Str → Option Value} {base : Heap}
def spLLot : Sp := fun vs H Q _ => ∃ (n cl : Addr) (cs : List Int) (T : Int) (many : Nat), vs = [.ref n, .int many] ∧ Nk H n cl cs T ∧ T ≤ 800000 ∧ many ≤ 10 ∧
  ∀ (H' : Hp) (l : Addr) (ns : List Int), Nk H' n cl cs (T + 12) → H' l = some (.lst (ns.map V.int)) → H l = none → LotOk ns many → Stp (isN n) (isN n) H H' → Q (.ref l) H'
theorem ok_llot (T : Ev K mg) : OkF P w K mg base CX0 2 "_law_lot" ["_law_nook_here", "_law_many"] spLLot := by
  obtain ⟨fd, F, b⟩ := T.ds_law_lot
  obtain ⟨f1, G1, b1, k1⟩ := ok_reach (P := P) (w := w) (base := base) T
  refine ⟨fd, FunD.ok F cs_law_lot ?_ ?_, b, F.kp⟩
  · rintro vs H Q E ⟨n, cl, cs, T, many, rfl, _⟩; rfl
  · rintro cdv A outer s H vs Q E hr ⟨n, cl, cs, Tn, many, rfl, hnk, hT, hm, q⟩
    refine ⟨_, pss_cons (ps_par (i := 2) (j := 3) (by rfl) cs_law_lot.nd rfl rfl (by decide) rfl rfl (pa_cons (pe_call G1 hr rfl T.g_law_reach k1 b1 .nil pass0 (pa_cons (pv 0) (pa_cons pe_int pa_nil))) (pa_cons (pe_call G1 hr rfl T.g_law_reach k1 b1 .nil pass0 (pa_cons (pv 0) (pa_cons (pe_op op_add (pv 1) pe_int) pa_nil))) pa_nil)) (by rfl))
      (pss_cons (ps_if (pt_cmpR op_eq (pv 2) pe_int (nomark _)) (pss_one (ps_ret (pe_listRg rfl rfl T.f_list (prg_1 rfl T.f_range (pv 1))))) pss_nil)
      (pss_cons (ps_if (pt_cmpR op_eq (pv 2) pe_int (nomark _)) (pss_one (ps_ret (pe_lst pa_nil))) pss_nil)
      (pss_cons (ps_if (pt_cmpR op_eq (pv 2) pe_int (nomark _)) (pss_one (ps_ret (pe_listRg rfl rfl T.f_list (prg_1 rfl T.f_range (pv 3))))) pss_nil)
      (pss_cons (ps_if (pt_cmpR op_eq (pv 2) pe_int (nomark _)) (pss_one (ps_ret (pe_ifExp (pt_cmpR op_lt (pv 3) (pv 1) (nomark _)) (pe_lst (pa_cons (pv 3) pa_nil)) (pe_lst pa_nil)))) pss_nil)
      (pss_one (ps_ret (pe_lc (own := [("_law_at", 4)]) (g := gName 4) rfl cs_law_lot.nd (pi_range1 rfl T.f_range (pa_cons (pv 1) pa_nil)) (blkOk_by (N := ["_law_nook_here", "_law_many", "_law_way", "_law_cut", "_law_at"]) (sc := defScope s_law_lot) (by decide +kernel)) (fun _ _ _ _ _ => pg_name (i := 4) cs_law_lot.nd rfl (Or.inl rfl))
        (fun _ _ _ _ _ => pts_one (pt_cmpR op_eq (pe_call G1 hr rfl T.g_law_reach k1 b1 .nil pass0 (pa_cons (pv 0) (pa_cons pe_int pa_nil))) pe_int (nomark _))) (fun _ _ _ _ _ => pv 4)))))))), ?_⟩
    refine ⟨_, rfl, n, cl, cs, Tn, 5, rfl, hnk, by omega, by decide, by decide, ?_⟩
    intro H1 way nk1 w0 w1 st1
    refine ⟨_, rfl, _, rfl, _, 1, rfl, rfl, n, cl, cs, Tn + 1, _, rfl, nk1, by omega, by omega, by omega, ?_⟩
    intro H2 cut nk2 c0 c1 st2
    have st := st1.trans st2
    refine ⟨_, _, rfl, ?_⟩
    have fin : ∀ (l : Addr) (ns : List Int), H2 l = none → LotOk ns many → Q (.ref l) (upd H2 l (.lst (ns.map V.int))) := fun l ns nl hl => by
      have s3 := SameN (o := .lst (ns.map V.int)) nl
      refine q _ l ns ((nk2.same s3).mono (by omega)) upd_same ?_ hl (st.trans (stp_same s3))
      cases e : H l with
      | none => rfl
      | some o =>
        obtain ⟨t, lf, h, _⟩ := nk2.ex
        have ln : ¬ isN n l := fun z => by
          have z : l = n := z
          rw [z, h.lst] at nl
          cases nl
        have := st.keep _ _ e ln
        rw [nl] at this
        cases this
    refine ⟨_, rfl, rfl, _, rfl, ite2 (fun _ => ?_) fun _ => ?_⟩
    · refine ⟨_, rfl, _, rfl, RgOk.of_le (Int.le_refl _) (by omega) (by decide) (by omega), fun l nl => ?_⟩
      rw [rg_list]
      exact fin l _ nl (rg_lot (Nat.le_refl _))
    refine ⟨_, rfl, rfl, _, rfl, ite2 (fun _ => ?_) fun _ => ?_⟩
    · exact ⟨Nat.zero_le _, fun l nl => fin l [] nl lot_nil⟩
    refine ⟨_, rfl, rfl, _, rfl, ite2 (fun _ => ?_) fun _ => ?_⟩
    · refine ⟨_, rfl, _, rfl, RgOk.of_le (Int.le_refl _) (by omega) (by decide) c0, fun l nl => ?_⟩
      obtain ⟨k, rfl⟩ : ∃ k : Nat, cut = (k : Int) := ⟨cut.toNat, by omega⟩
      rw [rg_list]
      exact fin l _ nl (rg_lot (by omega))
    refine ⟨_, rfl, rfl, _, rfl, ite2 (fun _ => ?_) fun _ => ?_⟩
    · refine ⟨_, rfl, _, rfl, _, _, rfl, rfl, _, rfl, ite2 (fun hc => ?_) fun hc => ?_⟩
      · exact ⟨_, rfl, by show 1 ≤ sizeLine; decide, fun l nl => fin l [cut] nl (lot_one c0 (of_decide_eq_true hc))⟩
      · exact ⟨Nat.zero_le _, fun l nl => fin l [] nl lot_nil⟩
    refine ⟨_, rfl, _, rfl, by omega, by omega, fun D nD => ?_⟩
    obtain ⟨t2, l2, h2, _⟩ := nk2.ex
    have nDn : ¬ isN n D := fun z => by
      have z : D = n := z
      rw [z, h2.lst] at nD
      cases nD
    have nDc : D ≠ cl := fun z => by rw [z, h2.cel] at nD; cases nD
    have nkD : ∀ {H' : Hp} {T : Int} {o : HO}, Nk H' n cl cs T → Nk (upd H' D o) n cl cs T := fun h => h.keep fun b o hb e => by
      rw [upd_ne (fun z => ?_)]
      · exact e
      · rw [z] at hb
        exact hb.elim nDn nDc
    refine lc_range (lo := 0) (n := ((many : Nat) : Int).toNat) (fun i H' => Stp (isN n) (isN n) H2 H' ∧ Nk H' n cl cs (Tn + 2 + i) ∧ ∃ ns, H' D = some (.lst (ns.map V.int)) ∧ LotOk ns i) ?_ ?_ ?_
    · exact ⟨stp_put (stp_same (Same.refl _)) nD, (nkD nk2).mono (by omega), [], upd_same, lot_nil⟩
    · rintro i H3 hi ⟨st3, nk3, ns, hD3, hlot⟩
      refine ⟨rfl, _, rfl, n, cl, cs, _, 2, rfl, nk3, by omega, by decide, by decide, ?_⟩
      intro H4 r nk4 r0 r1 st4
      have hD4 := st4.keep _ _ hD3 nDn
      refine ⟨rfl, _, rfl, ite2 (fun _ => ?_) fun _ => ?_⟩
      · refine ⟨_, rfl, _, hD4, small1000 (by rw [List.length_map]; have := hlot.len; omega), stp_put (st3.trans st4) nD, (nkD nk4).mono (by omega), ns ++ [(i : Int)], ?_, lot_snoc hlot⟩
        rw [upd_same, List.map_append]
        show some (HO.lst (ns.map V.int ++ [V.int (0 + (i : Int))])) = some (HO.lst (ns.map V.int ++ [V.int (i : Int)]))
        rw [Int.zero_add]
      · exact ⟨st3.trans st4, nk4.mono (by omega), ns, hD4, hlot.mono (by omega)⟩
    · rintro H3 ⟨st3, nk3, ns, hD3, hlot⟩
      have em : ((many : Nat) : Int).toNat = many := Int.toNat_natCast _
      rw [em] at hlot nk3
      refine q H3 D ns (nk3.mono (by omega)) hD3 ?_ hlot (st.trans st3)
      cases e : H D with
      | none => rfl
      | some o =>
        have := st.keep _ _ e nDn
        rw [nD] at this
        cases this
end
end PB

/-! a deed done; what stands -/
namespace PB
open PySem PySem.Spec PyProof.Rows L2
def g2 {α : Type} (us ws : List α) : List α := match us, ws with
  | [u], [v] => [u, v]
  | _, _ => []
def g1 {α : Type} (us ws : List α) : List α := match us, ws with
  | [], [v] => [v]
  | _, _ => []
theorem g2_rel {vs : List V} {us : List Value} {zs : List V} {ws : List Value} (a : Vals vs us) (b : Vals zs ws) : Vals (g2 vs zs) (g2 us ws) := by
  match vs, us, a, zs, ws, b with
  | _, _, .nil, _, _, _ => exact .nil
  | _, _, .cons _ .nil, _, _, .nil => exact .nil
  | _, _, .cons x .nil, _, _, .cons y .nil => exact .cons x (.cons y .nil)
  | _, _, .cons _ .nil, _, _, .cons _ (.cons _ _) => exact .nil
  | _, _, .cons _ (.cons _ _), _, _, _ => exact .nil
theorem g1_rel {vs : List V} {us : List Value} {zs : List V} {ws : List Value} (a : Vals vs us) (b : Vals zs ws) : Vals (g1 vs zs) (g1 us ws) := by
  match vs, us, a, zs, ws, b with
  | _, _, .nil, _, _, .nil => exact .nil
  | _, _, .nil, _, _, .cons y .nil => exact .cons y .nil
  | _, _, .nil, _, _, .cons _ (.cons _ _) => exact .nil
  | _, _, .cons _ _, _, _, _ => exact .nil
section
variable {K : PySem.W.Frag} {f : Addr} {fd : FuncData}
theorem kb_turn (F : MtP K "turn" "Book.turn" sB_turn f fd) : KBinds K fd ["self", "records"] ["records"] g2 g2 := by
  obtain
      ⟨oc, od, dV, kV, doc, pm, an, cdv, ct, osl, rfl, lk, hcd, hD, hK⟩ := F.ex
  rcases
      hD with ⟨_, rfl⟩ | ⟨e, _⟩
  · refine ⟨fun s us ws _ hl => ?_, g2_rel⟩
    match us, ws, hl with
    | [u], [v], _ => exact .of_eq rfl
  · exact absurd rfl e
theorem kb_add (F : MtP K "add" "Book.add" sB_add f fd) : KBinds K fd ["self", "record"] ["record"] g2 g2 := by
  obtain
      ⟨oc, od, dV, kV, doc, pm, an, cdv, ct, osl, rfl, lk, hcd, hD, hK⟩ := F.ex
  rcases
      hD with ⟨_, rfl⟩ | ⟨e, _⟩
  · refine ⟨fun s us ws _ hl => ?_, g2_rel⟩
    match us, ws, hl with
    | [u], [v], _ => exact .of_eq rfl
  · exact absurd rfl e
theorem kb_meant (F : FnP K "meant" s_meant f fd) : KBinds K fd ["disk"] ["disk"] g1 g1 := by
  obtain
      ⟨oc, od, dV, kV, doc, pm, an, cdv, ct, osl, rfl, lk, hcd, hD, hK⟩ := F.ex
  rcases
      hD with ⟨_, rfl⟩ | ⟨e, _⟩
  · refine ⟨fun s us ws _ hl => ?_, g1_rel⟩
    match us, ws, hl with
    | [], [v], _ => exact .of_eq rfl
  · exact absurd rfl e
theorem kb_book (F : MtP K "__init__" "Book.__init__" sB_init f fd) : KBn K fd ["self", "disk"] 1 ["disk"] g2 g2 := by
  obtain
      ⟨oc, od, dV, kV, doc, pm, an, cdv, ct, osl, rfl, lk, hcd, hD, hK⟩ := F.ex
  rcases
      hD with ⟨_, rfl⟩ | ⟨e, _⟩
  · refine ⟨fun s us ws _ h1 h2 => ?_, g2_rel⟩
    match us, ws, h1, h2 with
    | [u], [v], _, _ => exact .of_eq rfl
  · exact absurd rfl e
end
theorem Sys.mono {K : PySem.W.Frag} {H : Hp} {p b dx Tl : Addr} {D : Dk} {us : List V} {g : Int} {rs more : List Rc} {B B' : Nat} (h : Sys K H p D b dx Tl us g rs more B) (e : B ≤ B') : Sys K H p D b dx Tl us g rs more B' :=
  ⟨h.dk, h.em, h.st.mono e, h.bk, h.nb, h.nt⟩
/-- a deed: what is to be turned to, or added -/
def DeedAt (K : PySem.W.Frag) (H : Hp) (t : Addr) (g : Int) (old later : List Rc) (tn : Bool) : Prop :=
  (tn = true ∧ ∃ x vs', H t = some (.tup [.str "turn", .ref x]) ∧ SqL K H x vs' ∧ LR (RecR H) vs' later ∧ (∀ r ∈ later, r.good) ∧ later ≠ [] ∧ later.length ≤ 6) ∨
  (tn = false ∧ ∃ x r, H t = some (.tup [.str "add", .ref x]) ∧ H x = some (.tup r.vals) ∧ r.good ∧ 0 < g ∧ later = old ++ [r])
section
variable
    {P : Program} {w : World} {K : PySem.W.Frag} {mg : Str → Option Value} {base : Heap}
def spDone (K : PySem.W.Frag) : Sp := fun vs H Q _ => ∃ (b dx p t Tl : Addr) (D : Dk) (us : List V) (g : Int) (rs more later : List Rc) (B : Nat) (tn : Bool), vs = [.ref b, .ref t] ∧ Sys K H p D b dx Tl us g rs more B ∧ B ≤ 800 ∧ D.N + 42 ≤ 100000 ∧ DeedAt K H t g (rs ++ more) later tn ∧
  (∀ (H' : Hp) (D' : Dk) (us' : List V) (Tl' : Addr) (g' : Int) (rs' more' : List Rc), Sys K H' p D' b dx Tl' us' g' rs' more' (B + 7) → rs' ++ more' = later → g ≤ g' → (tn = true → more' = []) → D'.N ≤ D.N + 42 → Stp (footS b Tl p D) (footS b Tl' p D') H H' → Q (.bl true) H') ∧
  ∀ (H' : Hp) (D' : Dk), DiskAt K H' p D' → D'.ss.length ≤ 5 → D'.N ≤ D.N + 42 → (∀ F', May D'.F D'.ss F' → ∃ g' rs' more', BkSt F' g' rs' more' (B + 7) ∧ g ≤ g' ∧ (rs' ++ more' = rs ++ more ∨ rs' ++ more' = later)) → Stp (footS b Tl p D) (footS b Tl p D') H H' → Q (.bl false) H'
theorem ok_done (T : Ev K mg) : OkF P w K mg base CX0 8 "_law_done" ["_law_book", "_law_deed"] (spDone K) := by
  obtain ⟨fd, F, bd⟩ := T.ds_law_done
  obtain ⟨f1, G1, F1⟩ := ok_turn (P := P) (w := w) (base := base) T
  obtain ⟨f2, G2, F2⟩ := ok_add (P := P) (w := w) (base := base) T
  obtain ⟨x1, x2, x3, x4⟩ := T.x_Out
  refine ⟨fd, FunD.ok F cs_law_done ?_ ?_, bd, F.kp⟩
  · rintro vs H Q E ⟨b, dx, p, t, Tl, D, us, g, rs, more, later, B, tn, rfl, _⟩; rfl
  · rintro cdv A outer s H vs Q E hr ⟨b, dx, p, t, Tl, D, us, g, rs, more, later, B, tn, rfl, h, hB, hN, hdeed, q, qE⟩
    refine ⟨_, pss_cons (ps_try_only (tb := fun W => tIfS (tTest (tOp rEq (tOp (rIxT K) (tVar 1) (tC (.int 0))) (tC (.str "turn")))) (tDrop (tMethKS (He.ga K "Book") "turn" (spTurn K) g2 (WE W) (tVar 0) (tCons (tOp (rIxT K) (tVar 1) (tC (.int 1))) tNil))) (tDrop (tMethKS (He.ga K "Book") "add" (spAdd K) g2 (WE W) (tVar 0) (tCons (tOp (rIxT K) (tVar 1) (tC (.int 1))) tNil)))) rfl rfl ⟨rfl, by decide, .inl T.g_Out⟩ takes0 (fun W pn xe tk _ => pss_one (ps_if (pt_cmpR op_eq (pe_ix ix_tup (pv 1) pe_int (fun _ _ => rfl)) pe_str (nomark _))
        (pss_one (ps_expr (pe_methKS (pv 0) T.c_Book T.mB_turn G1 hr (kb_turn F1) (fun σ => passAt tk σ) (pk_cons (pe_ix ix_tup (pv 1) pe_int (fun _ _ => rfl)) pk_nil))))
        (pss_one (ps_expr (pe_methKS (pv 0) T.c_Book T.mB_add G2 hr (kb_add F2) (fun σ => passAt tk σ) (pk_cons (pe_ix ix_tup (pv 1) pe_int (fun _ _ => rfl)) pk_nil))))))
        (fun a oe cls d pn _ _ => pss_one (ps_ret pe_bl))) (pss_one (ps_ret pe_bl)), ?_⟩
    have exitE : ∀ {D' : Dk} {H' : Hp} {σ : L2.St} {D0 : Ends} {Wo : WX}, D0.rt (.bl false) H' → OutE K (WE (wOnly K (.ref (He.ga K "Out")) (fun _ _ _ => tRet (tC (.bl false))) Wo D0) σ) H' := fun hq => ⟨true, T.xm_Out, fun _ a ha => hq, fun z => nomatch z⟩
    rcases hdeed with ⟨rfl, x, vs', ht, hx, hrel, hgood, hne, hlen⟩ | ⟨rfl, x, r, ht, hx, hgood, hg, rfl⟩
    · refine ⟨_, rfl, t, _, 0, _, rfl, rfl, .of ht, at0, rfl, _, rfl, iteT ?_⟩
      refine ⟨_, rfl, b, _, _, rfl, h.bk.obj, rfl, _, rfl, t, _, 1, _, rfl, rfl, .of ht, at1, ?_⟩
      refine ⟨b, dx, p, x, Tl, D, us, vs', g, rs, more, later, B, rfl, h, hB, hN, hx, hrel, hgood, hne, hlen, ?_, ?_⟩
      · intro H' D' us' Tl' g' hs' hlt hN' st
        exact q H' D' us' Tl' g' later [] hs' (List.append_nil _) (by omega) (fun _ => rfl) hN' st
      · intro H' D' g' hd' hss hN' hlt hF st
        refine ⟨true, T.xm_Out, fun _ a ha => qE H' D' hd' hss hN' (fun F' hm => ?_) st, fun z => nomatch z⟩
        rcases hF F' hm with z | z
        · exact ⟨g, rs, more, z, Int.le_refl _, .inl rfl⟩
        · exact ⟨g', later, [], z, by omega, .inr (List.append_nil _)⟩
    · refine ⟨_, rfl, t, _, 0, _, rfl, rfl, .of ht, at0, rfl, _, rfl, iteF ?_⟩
      refine ⟨_, rfl, b, _, _, rfl, h.bk.obj, rfl, _, rfl, t, _, 1, _, rfl, rfl, .of ht, at1, ?_⟩
      have hul : us.length ≤ 1000 := by
        have := h.st.length_le hg
        rw [h.bk.rel.1, List.length_append]
        rw [List.length_append, List.length_cons] at this
        omega
      refine ⟨b, dx, p, x, Tl, D, us, g, rs, more, B, r, rfl, h, hg, hB, by omega, hx, hgood, hul, ?_, ?_⟩
      · intro H' D' us' hs' hN' st
        exact q H' D' us' Tl g rs (more ++ [r]) (hs'.mono (by omega)) (by rw [List.append_assoc]) (Int.le_refl _) (fun z => nomatch z) (by omega) st
      · intro H' D' hd' hss hN' hF st
        refine ⟨true, T.xm_Out, fun _ a ha => qE H' D' hd' hss (by omega) (fun F' hm => ?_) st, fun z => nomatch z⟩
        rcases hF F' hm with z | z
        · exact ⟨g, rs, more, z.mono (by omega), Int.le_refl _, .inl rfl⟩
        · exact ⟨g, rs, more ++ [r], z.mono (by omega), Int.le_refl _, .inr (by rw [List.append_assoc])⟩
def spStands (K : PySem.W.Frag) : Sp := fun vs H Q _ => ∃ (p b dx t Tl : Addr) (D : Dk) (us ds : List V) (g : Int) (rs more : List Rc) (B : Nat), vs = [.ref p, .ref b, .ref t] ∧ Sys K H p D b dx Tl us g rs more B ∧ B ≤ 190 ∧ H t = some (.tup ds) ∧ LR (RecR H) ds (rs ++ more) ∧
  ∀ H', Same H H' → Q (.bl true) H'
theorem ne_self (x : Str) : ¬ (!decide (V.str x = V.str x)) = true := by
  rw [decide_eq_true rfl]
  exact Bool.false_ne_true
theorem ok_stands (T : Ev K mg) : ∃ fd, FnG P w K mg base 8 (He.ga K "_law_stands") fd ["_law_disk", "_law_book", "_law_due"] (spStands K) ∧ Binds K fd ["_law_disk", "_law_book", "_law_due"] [] ∧ PySem.W.keepIn K (.ref (He.ga K "_law_stands")) = true := by
  obtain ⟨fd, F, bd⟩ := T.ds_law_stands
  obtain ⟨f1, G1, b1, k1⟩ := ok_lread (P := P) (w := w) (base := base) T
  obtain ⟨f2, G2, b2, F2⟩ := ok_meant (P := P) (w := w) (base := base) T
  obtain ⟨f3, G3, b3⟩ := ok_records (P := P) (w := w) (base := base) T
  refine ⟨fd, fnG_of F cs_law_stands ?_ ?_, bd, F.kp⟩
  · rintro vs H Q E ⟨p, b, dx, t, Tl, D, us, ds, g, rs, more, B, rfl, _⟩; rfl
  · rintro cdv A outer s H vs Q E gA hr ⟨p, b, dx, t, Tl, D, us, ds, g, rs, more, B, rfl, h, hB, ht, hrel, q⟩
    refine ⟨_, pss_cons (ps_set (i := 3) cs_law_stands.nd rfl (Or.inl rfl) (pe_call G1 hr rfl T.g_law_read k1 b1 .nil pass0 (pa_cons (pv 0) pa_nil)))
      (pss_cons (ps_if (PW.pt (pw_or (pt_cmpR op_ne (pe_callB (call_repr gA hr.units) (by rfl) T.f_repr (by decide +kernel) (pa_cons (pe_callK0 G2 hr rfl T.g_meant F2.kp (kb_meant F2) pass0 (pk_cons (pv 0) pk_nil)) pa_nil)) (pe_callB (call_repr gA hr.units) (by rfl) T.f_repr (by decide +kernel) (pa_cons (pv 2) pa_nil)) (nomark _))
          (pw_or (pt_cmpR op_ne (pe_callB (call_repr gA hr.units) (by rfl) T.f_repr (by decide +kernel) (pa_cons (pe_ix ix_tup (pv 3) pe_int (fun _ _ => rfl)) pa_nil)) (pe_callB (call_repr gA hr.units) (by rfl) T.f_repr (by decide +kernel) (pa_cons (pv 2) pa_nil)) (nomark _))
          (pw_or1 (pt_cmpR op_ne (pe_callB (call_repr gA hr.units) (by rfl) T.f_repr (by decide +kernel) (pa_cons (pe_meth0 (pv 1) T.c_Book T.mB_records G3 (hr.mono (by decide)) b3 .nil pass0) pa_nil)) (pe_callB (call_repr gA hr.units) (by rfl) T.f_repr (by decide +kernel) (pa_cons (pv 2) pa_nil)) (nomark _)))))) (pss_one ps_never) pss_nil)
      (pss_one (ps_ret (pe_cmpR op_eq (pe_callB (call_repr gA hr.units) (by rfl) T.f_repr (by decide +kernel) (pa_cons (pe_lst (pa_cons (pe_fld (pv 1) rfl) (pa_cons (pe_fld (pv 1) rfl) pa_nil))) pa_nil)) (pe_callB (call_repr gA hr.units) (by rfl) T.f_repr (by decide +kernel) (pa_cons (pe_lst (pa_cons (pe_ix ix_tup (pv 3) pe_int (fun _ _ => rfl)) (pa_cons (pe_ix ix_tup (pv 3) pe_int (fun _ _ => rfl)) pa_nil))) pa_nil)) (nomark _))))), ?_⟩
    have hlen : (rs ++ more).length ≤ 300 := by
      by_cases hg : 0 < g
      · have := h.st.length_le hg
        rw [List.length_append, List.length_cons] at this
        rw [List.length_append]
        omega
      · obtain ⟨e1, e2⟩ := h.st.zero (by have := h.st.g0; omega)
        rw [e1, e2]
        decide
    have so := recs_show h.st.good hlen
    have dpt : ∀ {H' : Hp} {a : Addr} {vs : List V}, H' a = some (.tup vs) → LR (RecR H') vs (rs ++ more) → Dp K H' (.ref a) (.tuple ((rs ++ more).map Rc.dat)) := fun e r => .tup (.of e) (dp_recs r)
    refine ⟨_, rfl, p, D, g, rs, more, B, rfl, h.dk, h.st, hB, ?_⟩
    intro H1 tf h1 hfd
    have hs1 := h.same h1
    refine ⟨_, rfl, p, D, g, rs, more, B, rfl, hs1.dk, h.st, by omega, ?_⟩
    intro H2 tp2 us2 h2 htp2 hus2
    have e2 := h1.trans h2
    refine ⟨tp2, _, rfl, dpt htp2 hus2, so.s, so.h, so.p, so.l, ?_⟩
    have due2 := dpt (e2 _ _ ht) (lr_mono hrel (rec_same e2))
    refine ⟨_, rfl, t, _, rfl, due2, so.s, so.h, so.p, so.l, rfl, _, rfl, ite2 (fun hc => absurd hc (ne_self _)) fun _ => ?_⟩
    obtain ⟨tk, usf, q1, q2, q3⟩ := fd_same h2 hfd
    refine ⟨_, rfl, tf, _, 1, _, rfl, rfl, .of q1, at1, tk, _, rfl, dpt q2 q3, so.s, so.h, so.p, so.l, ?_⟩
    refine ⟨_, rfl, t, _, rfl, due2, so.s, so.h, so.p, so.l, rfl, _, rfl, ite2 (fun hc => absurd hc (ne_self _)) fun _ => ?_⟩
    have hs2 := h.same e2
    refine ⟨_, rfl, b, _, _, rfl, hs2.bk.obj, rfl, b, dx, p, Tl, us, g, rs, more, rfl, hs2.bk, ?_⟩
    intro H3 tp3 h3 htp3
    have e3 := e2.trans h3
    have hs3 := h.same e3
    refine ⟨tp3, _, rfl, dpt htp3 hs3.bk.rel, so.s, so.h, so.p, so.l, ?_⟩
    refine ⟨_, rfl, t, _, rfl, dpt (e3 _ _ ht) (lr_mono hrel (rec_same e3)), so.s, so.h, so.p, so.l, rfl, _, rfl, ite2 (fun hc => absurd hc (ne_self _)) fun _ => ?_⟩
    have at2 : ∀ {x y z : V}, atI [x, y, z] 2 = some z := fun {x y z} => atI_nat (j := 2) rfl
    have hgB := h.st.gB
    have hg0 := h.st.g0
    have hml : more.length ≤ 300 := by rw [List.length_append] at hlen; omega
    have s2 := two_show (a := g) (b := (more.length : Int)) hg0 (by omega) (by omega) (by omega)
    refine ⟨_, rfl, b, _, _, _, _, rfl, hs3.bk.obj, T.c_Book, T.nB_generation, rfl, _, rfl, b, _, _, _, _, rfl, hs3.bk.obj, T.c_Book, T.nB_added, rfl, by show 2 ≤ sizeLine; decide, fun l4 nl4 => ?_⟩
    have s4 := SameN (o := .lst [.int g, .int (more.length : Nat)]) nl4
    refine ⟨l4, .list [.int g, .int (more.length : Nat)], rfl, .lst (.of upd_same) (.cons (.int _) (.cons (.int _) .nil)), s2.s, s2.h, s2.p, s2.l, ?_⟩
    have q4 := s4 _ _ (h3 _ _ q1)
    refine ⟨_, rfl, tf, _, 0, _, rfl, rfl, .of q4, at0, _, rfl, tf, _, 2, _, rfl, rfl, .of q4, at2, by show 2 ≤ sizeLine; decide, fun l5 nl5 => ?_⟩
    have s5 := SameN (o := .lst [.int g, .int (more.length : Nat)]) nl5
    refine ⟨l5, .list [.int g, .int (more.length : Nat)], rfl, .lst (.of upd_same) (.cons (.int _) (.cons (.int _) .nil)), s2.s, s2.h, s2.p, s2.l, rfl, ?_⟩
    have := q _ (e3.trans (s4.trans s5))
    show Q (.bl (decide (V.str _ = V.str _))) _
    rw [decide_eq_true rfl]
    exact this
end
end PB

/-! one turn of the law -/
namespace PB
open PySem PySem.Spec PyProof.Rows L2
/-- nook, disk, book, what is due -/
structure Lw (K : PySem.W.Frag) (H : Hp) (n cl : Addr) (cs : List Int) (Tn : Int) (p : Addr) (D : Dk) (b dx Tl : Addr) (us : List V) (g : Int) (rs more : List Rc) (B N : Nat) (td : Addr) (dvs : List V) : Prop where
  nk : Nk H n cl cs Tn
  sy : Sys K H p D b dx Tl us g rs more B
  sn : D.N ≤ N
  en : ¬ footS b Tl p D n
  ec : ¬ footS b Tl p D cl
  due : H td = some (.tup dvs)
  rel : LR (RecR H) dvs (rs ++ more)
section
variable {K : PySem.W.Frag} {H H' : Hp} {n cl p b dx Tl td sl : Addr} {cs : List Int} {Tn Tn' : Int} {D : Dk} {us dvs svs : List V} {g : Int} {rs more ss old later : List Rc} {B N : Nat} {t : Addr} {tn : Bool}
theorem Lw.same (h : Lw K H n cl cs Tn p D b dx Tl us g rs more B N td dvs) (e : Same H H') : Lw K H' n cl cs Tn p D b dx Tl us g rs more B N td dvs :=
  ⟨h.nk.same e, h.sy.same e, h.sn, h.en, h.ec, e _ _ h.due, lr_mono h.rel (rec_same e)⟩
theorem Lw.lmono (h : Lw K H n cl cs Tn p D b dx Tl us g rs more B N td dvs) (e : Tn ≤ Tn') : Lw K H n cl cs Tn' p D b dx Tl us g rs more B N td dvs :=
  ⟨h.nk.mono e, h.sy, h.sn, h.en, h.ec, h.due, h.rel⟩
theorem Sys.nook (h : Sys K H p D b dx Tl us g rs more B) (en : ¬ footS b Tl p D n) (st : Stp (isN n) (isN n) H H') : Sys K H' p D b dx Tl us g rs more B :=
  ⟨h.dk.apart st fun x f z => en (.inr (show foot p D n from (show x = n from z) ▸ f)), h.em, h.st, ⟨st.keep _ _ h.bk.obj fun z => en (.inl (.inl (show b = n from z).symm)), st.keep _ _ h.bk.tl fun z => en (.inl (.inr (show Tl = n from z).symm)), lr_mono h.bk.rel (rec_stp st)⟩, h.nb, h.nt⟩
theorem Lw.nook (h : Lw K H n cl cs Tn p D b dx Tl us g rs more B N td dvs) (st : Stp (isN n) (isN n) H H') (nk : Nk H' n cl cs Tn') : Lw K H' n cl cs Tn' p D b dx Tl us g rs more B N td dvs :=
  ⟨nk, h.sy.nook h.en st, h.sn, h.en, h.ec, st.tup _ _ h.due, lr_mono h.rel (rec_stp st)⟩
/-- a list of the law's own -/
structure Own (H : Hp) (n p : Addr) (D : Dk) (sl : Addr) (svs : List V) (ss : List Rc) : Prop where
  at_ : H sl = some (.lst svs)
  rel : LR (RecR H) svs ss
  nn : ¬ isN n sl
  nf : ¬ foot p D sl
  good : ∀ r ∈ ss, r.good
  ne : ss ≠ []
  len : ss.length ≤ 6
theorem Own.nook (h : Own H n p D sl svs ss) (st : Stp (isN n) (isN n) H H') : Own H' n p D sl svs ss := ⟨st.keep _ _ h.at_ h.nn, lr_mono h.rel (rec_stp st), h.nn, h.nf, h.good, h.ne, h.len⟩
theorem Own.same (h : Own H n p D sl svs ss) (e : Same H H') : Own H' n p D sl svs ss := ⟨e _ _ h.at_, lr_mono h.rel (rec_same e), h.nn, h.nf, h.good, h.ne, h.len⟩
theorem Own.stp {D' : Dk} (h : Own H n p D sl svs ss) (st : Stp (foot p D) (foot p D') H H') : Own H' n p D' sl svs ss := ⟨st.keep _ _ h.at_ h.nf, lr_mono h.rel (rec_stp st), h.nn, stp_not st h.at_ h.nf, h.good, h.ne, h.len⟩
/-- the deed: turn to these, or add one -/
def DeedX (H : Hp) (t sl : Addr) (g : Int) (old ss later : List Rc) (tn : Bool) : Prop :=
  (tn = true ∧ H t = some (.tup [.str "turn", .ref sl]) ∧ later = ss) ∨
  (tn = false ∧ ∃ x r, H t = some (.tup [.str "add", .ref x]) ∧ H x = some (.tup r.vals) ∧ r.good ∧ 0 < g ∧ later = old ++ [r])
theorem DeedX.tups (h : DeedX H t sl g old ss later tn) (e : ∀ b xs, H b = some (.tup xs) → H' b = some (.tup xs)) : DeedX H' t sl g old ss later tn := by
  rcases h with ⟨h1, h2, h3⟩ | ⟨h1, x, r, h2, h3, h4⟩
  · exact .inl ⟨h1, e _ _ h2, h3⟩
  · exact .inr ⟨h1, x, r, e _ _ h2, e _ _ h3, h4⟩
theorem DeedX.deed (h : DeedX H t sl g old ss later tn) (o : Own H n p D sl svs ss) : DeedAt K H t g old later tn := by
  rcases h with ⟨h1, h2, rfl⟩ | ⟨h1, x, r, h2, h3, h4, h5, h6⟩
  · exact .inl ⟨h1, sl, svs, h2, .of o.at_, o.rel, o.good, o.ne, o.len⟩
  · exact .inr ⟨h1, x, r, h2, h3, h4, h5, h6⟩
abbrev teDeed (K : PySem.W.Frag) : TE := tIf (tOr (tTest (tOp rEq (tFld K (tVar 5) "generation") (tC (.int 0)))) (tTest (tOp rEq (tCall spReach [] E0 (tCons (tVar 1) (tCons (tC (.int 4)) tNil))) (tC (.int 0)))))
  (tTup (tCons (tC (.str "turn")) (tCons (tVar 7) tNil))) (tTup (tCons (tC (.str "add")) (tCons (tCall spLRec [] E0 (tCons (tVar 1) tNil)) tNil)))
theorem deed_rd {mg : Str → Option Value} {σ : L2.St} {Q : VK} (T : Ev K mg) (h : Lw K H n cl cs Tn p D b dx Tl us g rs more B N td dvs) (hT : Tn ≤ 700000) (o : Own H n p D sl svs ss) (e1 : σ[1]? = some (some (.ref n))) (e5 : σ[5]? = some (some (.ref b))) (e7 : σ[7]? = some (some (.ref sl)))
    (q : ∀ H' t later tn, Lw K H' n cl cs (Tn + 10) p D b dx Tl us g rs more B N td dvs → Own H' n p D sl svs ss → DeedX H' t sl g (rs ++ more) ss later tn → Q (.ref t) H') : teDeed K σ H Q := by
  have turnQ : ∀ {H1 : Hp} {T1 : Int}, Lw K H1 n cl cs T1 p D b dx Tl us g rs more B N td dvs → T1 ≤ Tn + 10 → Own H1 n p D sl svs ss → tTup (tCons (tC (.str "turn")) (tCons (tVar 7) tNil)) σ H1 Q := fun h1 ht o1 => by
    refine ⟨_, e7, by show 2 ≤ sizeLine; decide, fun t nt => ?_⟩
    have s := SameN (o := .tup [.str "turn", .ref sl]) nt
    exact q _ t ss true ((h1.same s).lmono ht) (o1.same s) (.inl ⟨rfl, upd_same, rfl⟩)
  refine ⟨_, e5, b, _, _, _, _, rfl, h.sy.bk.obj, T.c_Book, T.nB_generation, rfl, rfl, _, rfl, ite2 (fun _ => iteT (turnQ h (by omega) o)) fun hg => ?_⟩
  have hg0 : 0 < g := by
    have h0 := h.sy.st.g0
    have : g ≠ 0 := fun z => hg (decide_eq_true (congrArg V.int z))
    omega
  refine ⟨_, e1, n, cl, cs, Tn, 4, rfl, h.nk, by omega, by decide, by decide, ?_⟩
  intro H1 r nk1 _ _ st1
  have h1 := h.nook st1 nk1
  have o1 := o.nook st1
  refine ⟨rfl, _, rfl, ite2 (fun _ => turnQ h1 (by omega) o1) fun _ => ?_⟩
  refine ⟨_, e1, n, cl, cs, Tn + 1, rfl, nk1, by omega, ?_⟩
  intro H2 x r nk2 hx hgood st2
  have h2 := h1.nook st2 nk2
  have o2 := o1.nook st2
  refine ⟨by show 2 ≤ sizeLine; decide, fun t nt => ?_⟩
  have s := SameN (o := .tup [.str "add", .ref x]) nt
  exact q _ t _ false ((h2.same s).lmono (by omega)) (o2.same s) (.inr ⟨rfl, x, r, upd_same, s _ _ hx, hgood, hg0, rfl⟩)
abbrev tIsTurn (K : PySem.W.Frag) : TT := tTest (tOp rEq (tOp (rIxT K) (tVar 8) (tC (.int 0))) (tC (.str "turn")))
theorem isTurn_rd {σ : L2.St} {R : Bool → Hp → Prop} (d : DeedX H t sl g old ss later tn) (e8 : σ[8]? = some (some (.ref t))) (q : R tn H) : tIsTurn K σ H R := by
  rcases d with ⟨rfl, h2, _⟩ | ⟨rfl, x, r, h2, _⟩
  · exact ⟨_, e8, t, _, 0, _, rfl, rfl, .of h2, at0, rfl, _, rfl, q⟩
  · exact ⟨_, e8, t, _, 0, _, rfl, rfl, .of h2, at0, rfl, _, rfl, q⟩
abbrev teLater (K : PySem.W.Frag) : TE := tIf (tIsTurn K) (tCB (rTupOf K) (tCons (tVar 7) tNil)) (tOp (rCatA K) (tVar 3) (tTup (tCons (tOp (rIxT K) (tVar 8) (tC (.int 1))) tNil)))
theorem later_rd {σ : L2.St} {Q : VK} (d : DeedX H t sl g old ss later tn) (o : Own H n p D sl svs ss) (hd : H td = some (.tup dvs)) (hrel : LR (RecR H) dvs old) (hold : old.length ≤ 300) (e3 : σ[3]? = some (some (.ref td))) (e7 : σ[7]? = some (some (.ref sl))) (e8 : σ[8]? = some (some (.ref t)))
    (q : ∀ H' tl lvs, Same H H' → H' tl = some (.tup lvs) → LR (RecR H') lvs later → Q (.ref tl) H') : teLater K σ H Q := by
  refine isTurn_rd d e8 ?_
  rcases d with ⟨rfl, h2, rfl⟩ | ⟨rfl, x, r, h2, h3, h4, h5, rfl⟩
  · refine iteT ⟨_, e7, sl, svs, rfl, .inl ⟨.of o.at_, fun tl nt => ?_⟩⟩
    have s := SameN (o := .tup svs) nt
    exact q _ tl svs s upd_same (lr_mono o.rel (rec_same s))
  · refine iteF ⟨_, e3, _, e8, t, _, 1, _, rfl, rfl, .of h2, at1, by show 1 ≤ sizeLine; decide, fun t1 n1 => ?_⟩
    have s := SameN (o := .tup [.ref x]) n1
    have hd1 := s _ _ hd
    have hr1 := lr_mono hrel (rec_same s)
    refine ⟨td, t1, dvs, [.ref x], rfl, rfl, .of hd1, .of upd_same, ?_, fun z => ?_, fun _ z => (List.cons_ne_nil _ _ z).elim, fun _ _ tl nt => ?_⟩
    · have : (400 : Nat) ≤ sizeLine := by decide
      rw [hrel.1]
      simp only [List.length_singleton]
      omega
    · subst z
      have e : old = [] := List.length_eq_zero_iff.mp hrel.1.symm
      rw [e] at q
      exact q _ t1 [.ref x] s upd_same (lr_snoc lr_nil ⟨x, rfl, s _ _ h3⟩)
    · have s2 := SameN (o := .tup (dvs ++ [.ref x])) nt
      exact q _ tl _ (s.trans s2) upd_same (lr_snoc (lr_mono hr1 (rec_same s2)) ⟨x, rfl, s2 _ _ (s _ _ h3)⟩)
abbrev teRows (K : PySem.W.Frag) : TE := tIf (tIsTurn K) (tOp (rI0 fun i j => .int (i + j)) (tCB (fun xs H Q => ∃ p ys, xs = [.ref p] ∧ (SqL K H p ys ∨ SqT K H p ys) ∧ Q (.int ys.length) H) (tCons (tVar 7) tNil)) (tC (.int 1))) (tC (.int 1))
theorem rows_rd {σ : L2.St} {Q : VK} (d : DeedX H t sl g old ss later tn) (o : Own H n p D sl svs ss) (e7 : σ[7]? = some (some (.ref sl))) (e8 : σ[8]? = some (some (.ref t)))
    (q : ∀ k : Int, 1 ≤ k → k ≤ 7 → Q (.int k) H) : teRows K σ H Q := by
  refine isTurn_rd d e8 ?_
  rcases d with ⟨rfl, h2, rfl⟩ | ⟨rfl, x, r, h2, h3, h4, h5, rfl⟩
  · refine iteT ⟨_, e7, sl, svs, rfl, .inl (.of o.at_), _, 1, rfl, rfl, q _ ?_ ?_⟩
    · have := List.length_pos_iff.mpr o.ne
      rw [o.rel.1]; omega
    · have := o.len
      rw [o.rel.1]; omega
  · exact iteF (q 1 (by decide) (by decide))
abbrev tsFuse (K : PySem.W.Frag) : TS := tIfS (tTest (tOp rEq (tCall spReach [] E0 (tCons (tVar 1) (tCons (tC (.int 2)) tNil))) (tC (.int 0))))
  (tDrop (tMeth (He.ga K "Disk") "fuse" (spFuse K) [] E0 (tVar 2) (tCons (tOp (rI0 fun i j => .int (i + j)) (tC (.int 1)) (tCall spReach [] E0 (tCons (tVar 1) (tCons (tOp (rI0 fun i j => .int (i + j)) (tOp (rI CMul fun i j => .int (i * j)) (tC (.int 8)) (tVar 10)) (tC (.int 2))) tNil)))) tNil))) tNext
theorem fuse_rd {σ : L2.St} {D0 : Ends} {k : Int} (h : Lw K H n cl cs Tn p D b dx Tl us g rs more B N td dvs) (hT : Tn ≤ 700000) (o : Own H n p D sl svs ss) (hk1 : 1 ≤ k) (hk7 : k ≤ 7) (e1 : σ[1]? = some (some (.ref n))) (e2 : σ[2]? = some (some (.ref p))) (e10 : σ[10]? = some (some (.int k)))
    (q : ∀ H' v, Lw K H' n cl cs (Tn + 2) p { D with left := v } b dx Tl us g rs more B N td dvs → Own H' n p { D with left := v } sl svs ss → (∀ b xs, H b = some (.tup xs) → H' b = some (.tup xs)) → D0.nx σ H') : tsFuse K D0 σ H := by
  have id_ : ∀ {H1 : Hp} {T1 : Int}, Lw K H1 n cl cs T1 p D b dx Tl us g rs more B N td dvs → T1 ≤ Tn + 2 → Own H1 n p D sl svs ss → (∀ b xs, H b = some (.tup xs) → H1 b = some (.tup xs)) → D0.nx σ H1 := fun h1 ht o1 ht1 => by
    have e : ({ D with left := D.left } : Dk) = D := rfl
    exact q _ D.left (e ▸ h1.lmono ht) (e ▸ o1) ht1
  refine ⟨_, e1, n, cl, cs, Tn, 2, rfl, h.nk, by omega, by decide, by decide, ?_⟩
  intro H1 r nk1 _ _ st1
  have h1 := h.nook st1 nk1
  have o1 := o.nook st1
  refine ⟨rfl, _, rfl, ite2 (fun _ => ?_) fun _ => id_ h1 (by omega) o1 st1.tup⟩
  refine ⟨_, e2, p, _, _, rfl, h1.sy.dk.obj, rfl, _, e1, _, e10, 8, k, rfl, rfl, .inl ⟨by decide, by decide⟩, _, 2, rfl, rfl, n, cl, cs, Tn + 1, _, rfl, nk1, by omega, by omega, by omega, ?_⟩
  intro H2 r2 nk2 r0 _ st2
  have h2 := h1.nook st2 nk2
  have o2 := o1.nook st2
  refine ⟨1, r2, rfl, rfl, p, D, _, rfl, h2.sy.dk, by omega, ?_⟩
  intro H3 v hd3 st3
  have sep : ∀ {x : Addr}, ¬ footS b Tl p D x → ¬ foot p D x := fun z f => z (.inr f)
  refine q H3 v ⟨?_, ⟨hd3, h2.sy.em, h2.sy.st, ⟨st3.keep _ _ h2.sy.bk.obj h2.sy.nb, st3.keep _ _ h2.sy.bk.tl h2.sy.nt, lr_mono h2.sy.bk.rel (rec_stp st3)⟩, h2.sy.nb, h2.sy.nt⟩, h2.sn, h2.en, h2.ec, st3.tup _ _ h2.due, lr_mono h2.rel (rec_stp st3)⟩ (o2.stp st3) fun b xs e => st3.tup _ _ (st2.tup _ _ (st1.tup _ _ e))
  exact (nk2.keep fun b o hb e => st3.keep _ _ e (hb.elim (fun z => by rw [z]; exact sep h2.en) fun z => by rw [z]; exact sep h2.ec)).mono (by omega)
end
end PB

/-! the law -/
namespace PB
open PySem PySem.Spec PyProof.Rows L2
/-- a book newly made -/
theorem book_made {K : PySem.W.Frag} {H H4 : Hp} {p b dx Tl : Addr} {D : Dk} {us : List V} {g : Int} {rs more : List Rc} {B : Nat} (hd : DiskAt K H p D) (em : D.ss = []) (hb : BkSt D.F g rs more B) (nb : H b = none) (nd : H dx = none)
    (sx : SameX b (upd (upd H dx (.own b)) b (.ins (He.ga K "Book") dx [])) H4) (hx : H4 b = some (.ins (He.ga K "Book") dx (fsB p g more.length Tl (allRows g rs more).length))) (hT : H4 Tl = some (.lst us))
    (nT : upd (upd H dx (.own b)) b (.ins (He.ga K "Book") dx []) Tl = none) (hus : LR (RecR H4) us (rs ++ more)) :
    Sys K H4 p D b dx Tl us g rs more B ∧ Same H H4 ∧ ∀ x o, H x = some o → ¬ foot p D x → ¬ footS b Tl p D x := by
  have s : Same H H4 := Same.made (C := He.ga K "Book") nb nd fun c o e n => sx c o n e
  have nTH : H Tl = none := by
    cases e : H Tl with
    | none => rfl
    | some o =>
      have h1 : Tl ≠ b := nne e nb
      have h2 : Tl ≠ dx := nne e nd
      rw [upd_ne h1, upd_ne h2, e] at nT
      cases nT
  have sep : ∀ {x : Addr}, H x = none → ¬ foot p D x := fun n f => by
    obtain ⟨o, e, _⟩ := hd.has f
    rw [n] at e
    cases e
  refine ⟨⟨hd.same s, em, hb, ⟨hx, hT, hus⟩, sep nb, sep nTH⟩, s, fun x o e nf => ?_⟩
  rintro ((z | z) | z)
  · rw [z, nb] at e; cases e
  · rw [z, nTH] at e; cases e
  · exact nf z
theorem init_disk {K : PySem.W.Frag} {H : Hp} {p b dx : Addr} {D : Dk} (hd : DiskAt K H p D) (nb : H b = none) (nd : H dx = none) : DiskAt K (upd (upd H dx (.own b)) b (.ins (He.ga K "Book") dx [])) p D := by
  refine hd.same fun c o e => ?_
  rw [upd_ne (nne e nb), upd_ne (nne e nd)]
  exact e
theorem Nk.has {H : Hp} {n cl : Addr} {cs : List Int} {T : Int} (h : Nk H n cl cs T) : (∃ o, H n = some o) ∧ ∃ o, H cl = some o := by
  obtain ⟨t, l, h1, _⟩ := h.ex
  exact ⟨⟨_, h1.lst⟩, _, h1.cel⟩
section
variable
    {P : Program} {w : World} {K : PySem.W.Frag} {mg : Str → Option Value} {base : Heap}
def
    spLaw (K : PySem.W.Frag) : Sp := fun vs H Q _ => ∃ (a : Addr) (ns : List Int), vs = [.ref a] ∧ SqL K H a (ns.map V.int) ∧ ∀ H', Q (.bl true) H'
theorem ok_law (T : Ev K mg) : ∃ fd, FnG P w K mg base 9 (He.ga K "law") fd ["_law_script"] (spLaw K) ∧ FnP K "law" s_law (He.ga K "law") fd := by
  obtain ⟨fd, F, bd⟩ := T.ds_law
  obtain ⟨fn', Gn, bn, kn⟩ := ok_nook (P := P) (w := w) (base := base) T
  obtain ⟨fd', Gd, bd'⟩ := ok_dinit (P := P) (w := w) (base := base) T
  obtain ⟨fb, Gb, bb, FB⟩ := ok_binit (P := P) (w := w) (base := base) T
  obtain ⟨fp, Gp, bp, kp⟩ := ok_pick (P := P) (w := w) (base := base) T
  obtain ⟨fr, Gr, br, kr⟩ := ok_reach (P := P) (w := w) (base := base) T
  obtain ⟨fl, Gl, bl, kl⟩ := ok_lrec (P := P) (w := w) (base := base) T
  obtain ⟨ff, Gf, bf⟩ := ok_fuse (P := P) (w := w) (base := base) T
  obtain ⟨fdn, Gdn, bdn, kdn⟩ := ok_done (P := P) (w := w) (base := base) T
  obtain ⟨fnf, Gnf, bnf⟩ := ok_no_fuse (P := P) (w := w) (base := base) T
  obtain ⟨fw, Gw, bw⟩ := ok_waiting (P := P) (w := w) (base := base) T
  obtain ⟨fs, Gs, bs, ks⟩ := ok_stands (P := P) (w := w) (base := base) T
  obtain ⟨fc, Gc, bc⟩ := ok_cut (P := P) (w := w) (base := base) T
  obtain ⟨flt, Glt, blt, klt⟩ := ok_llot (P := P) (w := w) (base := base) T
  obtain ⟨fm, Gm, bm, FM⟩ := ok_meant (P := P) (w := w) (base := base) T
  obtain ⟨fi, Gi, bi, ki⟩ := ok_is_record (P := P) (w := w) (base := base) T
  refine ⟨fd, fnG_of F cs_law ?_ ?_, F⟩
  · rintro vs H Q E ⟨a, ns, rfl, _⟩; rfl
  · rintro cdv A outer s H vs Q E gA hr ⟨a, ns, rfl, ha, q⟩
    refine ⟨_, pss_cons (ps_set (i := 1) cs_law.nd rfl (Or.inr rfl) (pe_call Gn (hr.mono (by decide)) rfl T.g_law_nook kn bn .nil pass0 (pa_cons (pv 0) pa_nil)))
      (pss_cons (ps_par3 (i := 2) (j := 3) (l := 4) (by rfl) cs_law.nd rfl rfl rfl (by decide) (by decide) (by decide) rfl rfl rfl (pa_cons (pe_make0 T.k_Disk Gd (hr.mono (by decide)) rfl T.g_Disk bd' .nil pass0) (pa_cons (pe_tup pa_nil) (pa_cons pe_int pa_nil))) (by rfl))
      (pss_cons (ps_set (i := 5) cs_law.nd rfl (Or.inl rfl) (pe_makeK0 T.k_Book Gb hr rfl T.g_Book (kb_book FB) pass0 (pk_cons (pv 2) pk_nil)))
      (pss_cons (ps_for PassesOwn.never rfl (pi_range1 rfl T.f_range (pa_cons (pe_call Gp (hr.mono (by decide)) rfl T.g_law_pick kp bp .nil pass0 (pa_cons (pv 1) (pa_cons (pe_lst (pa_cons pe_int (pa_cons pe_int (pa_cons pe_int (pa_cons pe_int pa_nil))))) pa_nil))) pa_nil)) (pg_name (i := 6) cs_law.nd rfl (Or.inl rfl))
        (pss_cons (ps_setLc (i := 7) (own := [("_law_lap", 12)]) (g := gName 12) (tt := tYes) (by rfl) cs_law.nd rfl rfl (sw_true rfl rfl rfl (by decide +kernel)) (pi_range1 rfl T.f_range (pa_cons (pe_op op_add pe_int (pe_call Gr (hr.mono (by decide)) rfl T.g_law_reach kr br .nil pass0 (pa_cons (pv 1) (pa_cons pe_int pa_nil)))) pa_nil)) (blkOk_by (N := ["_law_script", "_law_nook_here", "_law_disk", "_law_due", "_law_ahead", "_law_book", "_law_turn", "_law_some", "_law_deed", "_law_later", "_law_rows", "_law_told", "_law_lap", "_law_record_here"]) (sc := defScope s_law) (by decide +kernel)) (fun _ _ _ _ _ => pg_name (i := 12) cs_law.nd rfl (Or.inl rfl)) (fun _ _ _ _ _ => pts_nil)
          (fun _ _ _ _ _ => pe_call Gl (hr.mono (by decide)) rfl T.g_law_record kl bl .nil pass0 (pa_cons (pv 1) pa_nil)))
        (pss_cons (ps_set (te := teDeed K) (i := 8) cs_law.nd rfl (Or.inl rfl) (pe_ifExp (PW.pt (pw_or (pt_cmpR op_eq (pe_fld (pv 5) rfl) pe_int (nomark _)) (pw_or1 (pt_cmpR op_eq (pe_call Gr (hr.mono (by decide)) rfl T.g_law_reach kr br .nil pass0 (pa_cons (pv 1) (pa_cons pe_int pa_nil))) pe_int (nomark _)))))
          (pe_tup (pa_cons pe_str (pa_cons (pv 7) pa_nil))) (pe_tup (pa_cons pe_str (pa_cons (pe_call Gl (hr.mono (by decide)) rfl T.g_law_record kl bl .nil pass0 (pa_cons (pv 1) pa_nil)) pa_nil)))))
        (pss_cons (ps_set (te := teLater K) (i := 9) cs_law.nd rfl (Or.inl rfl) (pe_ifExp (pt_cmpR op_eq (pe_ix ix_tup (pv 8) pe_int (fun _ _ => rfl)) pe_str (nomark _)) (pe_callTy call_tuple_of2 (by rfl) T.f_tuple (by decide +kernel) (pa_cons (pv 7) pa_nil)) (pe_op op_catA (pv 3) (pe_tup (pa_cons (pe_ix ix_tup (pv 8) pe_int (fun _ _ => rfl)) pa_nil)))))
        (pss_cons (ps_set (te := teRows K) (i := 10) cs_law.nd rfl (Or.inl rfl) (pe_ifExp (pt_cmpR op_eq (pe_ix ix_tup (pv 8) pe_int (fun _ _ => rfl)) pe_str (nomark _)) (pe_op op_add (pe_callB call_len_seq (by rfl) T.f_len PySem.boot_len (pa_cons (pv 7) pa_nil)) pe_int) pe_int))
        (pss_cons (t := tsFuse K) (ps_if (pt_cmpR op_eq (pe_call Gr (hr.mono (by decide)) rfl T.g_law_reach kr br .nil pass0 (pa_cons (pv 1) (pa_cons pe_int pa_nil))) pe_int (nomark _)) (pss_one (ps_expr (pe_meth (pv 2) T.c_Disk T.mD_fuse Gf (hr.mono (by decide)) bf .nil pass0 (pa_cons (pe_op op_add pe_int (pe_call Gr (hr.mono (by decide)) rfl T.g_law_reach kr br .nil pass0 (pa_cons (pv 1) (pa_cons (pe_op op_add (pe_op op_mul pe_int (pv 10)) pe_int) pa_nil)))) pa_nil)))) pss_nil)
        (pss_cons (ps_if (pt_val (pe_call Gdn hr rfl T.g_law_done kdn bdn .nil pass0 (pa_cons (pv 5) (pa_cons (pv 8) pa_nil))))
          (pss_cons (ps_expr (pe_meth0 (pv 2) T.c_Disk T.mD_no_fuse Gnf (hr.mono (by decide)) bnf .nil pass0))
          (pss_cons (ps_set (i := 3) cs_law.nd rfl (Or.inl rfl) (pv 9))
          (pss_one (ps_if (PW.pt (pw_or (pt_cmpR (op_neD hr.units) (pe_meth0 (pv 2) T.c_Disk T.mD_waiting Gw (hr.mono (by decide)) bw .nil pass0) (pe_tup pa_nil) (nomark _)) (pw_or (pt_not (pt_val (pe_callG Gs gA hr rfl T.g_law_stands ks bs (pa_cons (pv 2) (pa_cons (pv 5) (pa_cons (pv 3) pa_nil))))))
            (pw_or1 (PW.pt (pw_and (pt_cmpR op_eq (pe_ix ix_tup (pv 8) pe_int (fun _ _ => rfl)) pe_str (nomark _)) (pw_and1 (pt_cmpR op_ne (pe_fld (pv 5) rfl) pe_int (nomark _))))))))) (pss_one ps_never) pss_nil))))
          (pss_cons (ps_expr (pe_meth (pv 2) T.c_Disk T.mD_cut Gc (hr.mono (by decide)) bc .nil pass0 (pa_cons (pe_call Glt (hr.mono (by decide)) rfl T.g_law_lot klt blt .nil pass0 (pa_cons (pv 1) (pa_cons (pe_callB call_len_seq (by rfl) T.f_len PySem.boot_len (pa_cons (pe_meth0 (pv 2) T.c_Disk T.mD_waiting Gw (hr.mono (by decide)) bw .nil pass0) pa_nil)) pa_nil))) pa_nil)))
          (pss_cons (ps_set (i := 11) cs_law.nd rfl (Or.inl rfl) (pe_call Gm (hr.mono (by decide)) rfl T.g_meant FM.kp bm .nil pass0 (pa_cons (pv 2) pa_nil)))
          (pss_cons (ps_if (pt_cmpR op_notIn_seq (pe_callB (call_repr gA hr.units) (by rfl) T.f_repr (by decide +kernel) (pa_cons (pv 11) pa_nil)) (pe_tup (pa_cons (pe_callB (call_repr gA hr.units) (by rfl) T.f_repr (by decide +kernel) (pa_cons (pv 3) pa_nil)) (pa_cons (pe_callB (call_repr gA hr.units) (by rfl) T.f_repr (by decide +kernel) (pa_cons (pv 9) pa_nil)) pa_nil))) (by rfl)) (pss_one ps_never) pss_nil)
          (pss_cons (ps_par (i := 3) (j := 5) (by rfl) cs_law.nd rfl rfl (by decide) rfl rfl (pa_cons (pv 11) (pa_cons (pe_make T.k_Book Gb hr rfl T.g_Book bb .nil pass0 (pa_cons (pv 2) pa_nil)) pa_nil)) (by rfl))
          (pss_one (ps_if (pt_not (pt_val (pe_callG Gs gA hr rfl T.g_law_stands ks bs (pa_cons (pv 2) (pa_cons (pv 5) (pa_cons (pv 3) pa_nil)))))) (pss_one ps_never) pss_nil)))))))
        (pss_cons (ps_if (PW.pt (pw_or (pt_cmpR op_lt (pe_fld (pv 5) rfl) (pv 4) (nomark _)) (pw_or1 (pt_not (pt_val (pe_callG Gs gA hr rfl T.g_law_stands ks bs (pa_cons (pv 2) (pa_cons (pe_make T.k_Book Gb hr rfl T.g_Book bb .nil pass0 (pa_cons (pv 2) pa_nil)) (pa_cons (pv 3) pa_nil))))))))) (pss_one ps_never) pss_nil)
        (pss_one (ps_set (i := 4) cs_law.nd rfl (Or.inl rfl) (pe_fld (pv 5) rfl)))))))))))
      (pss_one (ps_ret (pe_cmpR (op_eqD hr.units) (pe_lc (own := [("_law_record_here", 13)]) (g := gName 13) rfl cs_law.nd (pi_tup (pv 3)) (blkOk_by (N := ["_law_script", "_law_nook_here", "_law_disk", "_law_due", "_law_ahead", "_law_book", "_law_turn", "_law_some", "_law_deed", "_law_later", "_law_rows", "_law_told", "_law_lap", "_law_record_here"]) (sc := defScope s_law) (by decide +kernel)) (fun _ _ _ _ _ => pg_name (i := 13) cs_law.nd rfl (Or.inl rfl))
          (fun _ _ _ _ _ => pts_one (pt_cmpR op_isnot_bl (pe_call Gi (hr.mono (by decide)) rfl T.g_is_record ki bi .nil pass0 (pa_cons (pv 13) pa_nil)) pe_bl (nomark _))) (fun _ _ _ _ _ => pv 13)) (pe_lst pa_nil) (nomark _))))))), ?_⟩
    refine ⟨_, rfl, a, ns, rfl, ha, ?_⟩
    intro H1 n cl cs h1 _ _ nk1
    intro p dxp np ndp nep
    refine ⟨p, dxp, rfl, upd_same, ?_⟩
    intro H2 D hd2 eF ess eN st2
    refine ⟨rfl, Nat.zero_le _, fun td ntd => ⟨_, _, _, rfl, ?_⟩⟩
    have sA : ∀ x o, H1 x = some o → x ≠ p ∧ upd (upd H1 dxp (.own p)) p (.ins (He.ga K "Disk") dxp []) x = some o := fun x o e => by
      refine ⟨nne e np, ?_⟩
      rw [upd_ne (nne e np), upd_ne (nne e ndp)]
      exact e
    have nk2 : Nk H2 n cl cs 0 := nk1.keep fun x o _ e => st2.keep _ _ (sA x o e).2 (sA x o e).1
    have sep2 : ∀ x o, H1 x = some o → ¬ foot p D x := fun x o e => stp_not st2 (sA x o e).2 (sA x o e).1
    have s3 := SameN (o := .tup []) ntd
    generalize hH3 : upd H2 td (.tup []) = H3 at s3
    have htd3 : H3 td = some (.tup []) := by rw [← hH3]; exact upd_same
    have hd3 := hd2.same s3
    have nk3 := nk2.same s3
    have hb0 : BkSt D.F 0 [] [] 0 := by rw [eF]; exact bkSt_new
    refine ⟨_, rfl, rfl, rfl, ?_⟩
    intro b dx nb nd _
    refine ⟨b, dx, p, D, 0, [], [], 0, rfl, upd_same, init_disk hd3 nb nd, hb0, by decide, ?_⟩
    intro H4 Tl us sx4 hx4 hT4 nT4 hus4
    obtain ⟨sy4, s4, sep4⟩ := book_made hd3 ess hb0 nb nd sx4 hx4 hT4 nT4 hus4
    obtain ⟨⟨on, en⟩, oc, ec⟩ := nk1.has
    obtain ⟨⟨on3, en3⟩, oc3, ec3⟩ := nk3.has
    have lw4 : Lw K H4 n cl cs 0 p D b dx Tl us 0 [] [] 0 0 td [] := ⟨nk3.same s4, sy4, Nat.le_of_eq eN, sep4 _ _ en3 (sep2 _ _ en), sep4 _ _ ec3 (sep2 _ _ ec), s4 _ _ htd3, lr_nil⟩
    refine ⟨rfl, _, rfl, by show 4 ≤ sizeLine; decide, fun l nl => ?_⟩
    have s5 := SameN (o := .lst [.int 6, .int 10, .int 14, .int 3]) nl
    have lw5 := lw4.same s5
    obtain ⟨⟨on4, en4⟩, _⟩ := lw4.nk.has
    refine ⟨n, cl, cs, 0, l, _, rfl, lw5.nk, by decide, upd_same, (nne en4 nl).symm, by show 0 < 4; decide, by show 4 ≤ 1000; decide, ?_⟩
    intro H6 j v hv nk6 st6
    have lw6 := lw5.nook st6 nk6
    obtain ⟨k, rfl, k0, k1⟩ : ∃ k : Int, v = .int k ∧ 0 ≤ k ∧ k ≤ 14 := by
      have hm := List.mem_of_getElem? hv
      simp only
          [List.mem_cons, List.not_mem_nil, or_false] at hm
      rcases hm with e | e | e | e
      · exact ⟨6, e, by decide, by decide⟩
      · exact ⟨10, e, by decide, by decide⟩
      · exact ⟨14, e, by decide, by decide⟩
      · exact ⟨3, e, by decide, by decide⟩
    refine ⟨k, rfl, by omega, by omega, ?_⟩
    refine for_range (lo := 0) (n := k.toNat) (fun i σ H' => ∃ (td b : Addr) (ah : Int), (∃ x6 x7 x8 x9 x10 x11 x12 x13, σ = [some (.ref a), some (.ref n), some (.ref p), some (.ref td), some (.int ah), some (.ref b), x6, x7, x8, x9, x10, x11, x12, x13]) ∧
      ∃ (D : Dk) (dx Tl : Addr) (us : List V) (g : Int) (rs more : List Rc) (dvs : List V), Lw K H' n cl cs (1 + 100 * i) p D b dx Tl us g rs more (7 * i) (50 * i) td dvs ∧ ah ≤ g) ?_ ?_ ?_
    · exact ⟨td, b, 0, ⟨_, _, _, _, _, _, _, _, rfl⟩, D, dx, Tl, us, 0, [], [], [], lw6.lmono (by omega), Int.le_refl _⟩
    · rintro i σ H7 hi ⟨td, b, ah, ⟨x6, x7, x8, x9, x10, x11, x12, x13, rfl⟩, D, dx, Tl, us, g, rs, more, dvs, lw, hah⟩
      have hi14 : i < 14 := by omega
      refine ⟨_, rfl, n, cl, cs, _, 6, rfl, lw.nk, by omega, by decide, by decide, ?_⟩
      intro H8 r nk8 r0 r1 st8
      have lw8 := lw.nook st8 nk8
      refine ⟨1, r, rfl, rfl, _, rfl, by omega, by omega, fun sl nsl => ?_⟩
      obtain ⟨⟨on8, en8⟩, oc8, ec8⟩ := nk8.has
      have nsn : ¬ isN n sl := fun z => by
        have z : sl = n := z
        rw [z, en8] at nsl
        cases nsl
      have nscl : sl ≠ cl := fun z => by rw [z, ec8] at nsl; cases nsl
      have nsf : ¬ foot p D sl := fun f => by
        obtain ⟨o, e, _⟩ := lw8.sy.dk.has f
        rw [nsl] at e
        cases e
      have nkS : ∀ {H' : Hp} {T : Int} {o : HO}, Nk H' n cl cs T → Nk (upd H' sl o) n cl cs T := fun h => h.keep fun b o hb e => by
        rw [upd_ne (fun z => ?_)]
        · exact e
        · rw [z] at hb
          exact hb.elim nsn nscl
      refine lc_range (lo := 0) (n := ((1 : Int) + r).toNat) (fun j H' => Stp (isN n) (isN n) H8 H' ∧ Nk H' n cl cs (1 + 100 * i + 1 + 9 * j) ∧ ∃ svs ss, H' sl = some (.lst svs) ∧ LR (RecR H') svs ss ∧ (∀ r ∈ ss, r.good) ∧ ss.length = j) ?_ ?_ ?_
      · exact ⟨stp_put (stp_same (Same.refl _)) nsl, (nkS nk8).mono (by omega), [], [], upd_same, lr_nil, fun r hr => by simp at hr, rfl⟩
      · rintro j H9 hj ⟨st9, nk9, svs, ss, hs9, hrel9, hg9, hl9⟩
        simp only [tYes, ↓reduceIte]
        refine ⟨rfl, _, rfl, n, cl, cs, _, rfl, nk9, by omega, ?_⟩
        intro H10 x rc nk10 hx hgx st10
        have hs10 := st10.keep _ _ hs9 nsn
        refine ⟨svs, hs10, small1000 (by rw [hrel9.1]; omega), stp_put (st9.trans st10) nsl, (nkS nk10).mono (by omega), svs ++ [.ref x], ss ++ [rc], upd_same, lr_snoc (lr_mono (lr_mono hrel9 (rec_stp st10)) (rec_nl (n_upd hs10))) ⟨x, rfl, n_upd hs10 _ _ (fun _ z => nomatch z) hx⟩, fun q hq => ?_, by rw [List.length_append, hl9]; rfl⟩
        rcases List.mem_append.mp hq with e | e
        · exact hg9 q e
        · rw [List.mem_singleton.mp e]; exact hgx
      rintro H9 ⟨st9, nk9, svs, ss, hs9, hrel9, hg9, hl9⟩
      have lw9 := lw8.nook st9 nk9
      have own9 : Own H9 n p D sl svs ss := ⟨hs9, hrel9, nsn, nsf, hg9, fun z => by rw [z] at hl9; have : (0 : Nat) = ((1 : Int) + r).toNat := hl9; omega, by omega⟩
      refine deed_rd T lw9 (by omega) own9 rfl rfl rfl ?_
      intro H10 t later tn lw10 own10 d10
      have hold : (rs ++ more).length ≤ 300 := by
        by_cases hg : 0 < g
        · have := lw.sy.st.length_le hg
          rw [List.length_append, List.length_cons] at this
          rw [List.length_append]
          omega
        · obtain ⟨e1, e2⟩ := lw.sy.st.zero (by have := lw.sy.st.g0; omega)
          rw [e1, e2]
          decide
      refine later_rd d10 own10 lw10.due lw10.rel hold rfl rfl rfl ?_
      intro H11 tl lvs h11 htl hlvs
      have d11 := d10.tups fun b xs e => h11 _ _ e
      have own11 := own10.same h11
      have lw11 := lw10.same h11
      refine rows_rd d11 own11 rfl rfl ?_
      intro k' k1' k7'
      refine fuse_rd lw11 (by omega) own11 k1' k7' rfl rfl rfl ?_
      intro H12 v12 lw12 own12 tup12
      generalize hD12 : ({ D with left := v12 } : Dk) = D12 at lw12 own12
      have d12 := d11.tups tup12
      have htl12 := tup12 _ _ htl
      have hlvs12 : LR (RecR H12) lvs later := lr_mono hlvs fun r v ⟨x, e1, e2⟩ => ⟨x, e1, tup12 _ _ e2⟩
      have hgl : (∀ r ∈ later, r.good) ∧ later.length ≤ 301 := by
        rcases d12 with ⟨_, _, rfl⟩ | ⟨_, x, rc, _, _, hgx, _, rfl⟩
        · exact ⟨hg9, by have := own12.len; omega⟩
        · refine ⟨fun q hq => ?_, by rw [List.length_append, List.length_singleton]; omega⟩
          rcases List.mem_append.mp hq with e | e
          · exact lw.sy.st.good q e
          · rw [List.mem_singleton.mp e]; exact hgx
      have sn12 := lw12.sn
      refine ⟨_, rfl, _, rfl, b, dx, p, t, Tl, D12, us, g, rs, more, later, 7 * i, tn, rfl, lw12.sy, by omega, by omega, d12.deed own12, ?_, ?_⟩
      focus
        intro H13 D13 us13 Tl13 g13 rs13 more13 sy13 el13 hg13 htn13 hN13 st13
        refine ⟨true, rfl, iteT ?_⟩
        refine ⟨_, rfl, p, _, _, rfl, sy13.dk.obj, rfl, p, D13, rfl, sy13.dk, ?_⟩
        intro H14 v14 hd14 st14
        have bA : ∀ {x : Addr} {o : HO}, H12 x = some o → ¬ footS b Tl p D12 x → H14 x = some o ∧ ¬ footS b Tl13 p { D13 with left := v14 } x := fun e nf => by
          have e13 := st13.keep _ _ e nf
          have nf13 := stp_not st13 e nf
          exact ⟨st14.keep _ _ e13 fun f => nf13 (.inr f), nf13⟩
        obtain ⟨⟨on12, en12⟩, oc12, ec12⟩ := lw12.nk.has
        have nk14 : Nk H14 n cl cs (1 + 100 * i + 67) := (lw12.nk.keep fun x o hx e => (bA e (hx.elim (fun z => by rw [z]; exact lw12.en) fun z => by rw [z]; exact lw12.ec)).1).mono (by omega)
        have sy14 : Sys K H14 p { D13 with left := v14 } b dx Tl13 us13 g13 rs13 more13 (7 * i + 7) := ⟨hd14, sy13.em, sy13.st, ⟨st14.keep _ _ sy13.bk.obj sy13.nb, st14.keep _ _ sy13.bk.tl sy13.nt, lr_mono sy13.bk.rel (rec_stp st14)⟩, sy13.nb, sy13.nt⟩
        have htl14 := st14.tup _ _ (st13.tup _ _ htl12)
        have hlvs14 : LR (RecR H14) lvs (rs13 ++ more13) := by
          rw [el13]
          exact lr_mono hlvs12 fun r v hv => rec_stp st14 _ _ (rec_stp st13 _ _ hv)
        have d14 := d12.tups fun x xs e => st14.tup _ _ (st13.tup _ _ e)
        have lw14 : Lw K H14 n cl cs (1 + 100 * ((i + 1 : Nat) : Int)) p { D13 with left := v14 } b dx Tl13 us13 g13 rs13 more13 (7 * (i + 1)) (50 * (i + 1)) tl lvs :=
          ⟨nk14.mono (by omega), sy14, by show D13.N ≤ _; omega, (bA en12 lw12.en).2, (bA ec12 lw12.ec).2, htl14, hlvs14⟩
        have us0 : D13.us = [] := List.length_eq_zero_iff.mp (by rw [sy13.dk.rel.1, sy13.em]; rfl)
        refine ⟨_, rfl, ?_⟩
        refine ⟨_, rfl, p, _, _, rfl, hd14.obj, rfl, p, _, rfl, hd14, ?_⟩
        intro H15 tw h15 htw
        have htw : H15 tw = some (.tup []) := us0 ▸ htw
        refine ⟨Nat.zero_le _, fun te nte => ?_⟩
        have s16 := SameN (o := .tup []) nte
        refine ⟨.tuple [], .tuple [], .tup (.of (s16 _ _ htw)) .nil, .tup (.of upd_same) .nil, rfl, rfl, _, rfl, ite2 (fun hc => absurd hc (by decide)) fun _ => ?_⟩
        have lw16 := (lw14.same h15).same s16
        refine ⟨_, rfl, _, rfl, _, rfl, p, b, dx, tl, Tl13, _, us13, lvs, g13, rs13, more13, _, rfl, lw16.sy, by omega, lw16.due, lw16.rel, ?_⟩
        intro H17 h17
        refine ⟨true, rfl, iteF ?_⟩
        have lw17 := lw16.same h17
        have hJ : ∃ (D : Dk) (dx Tl : Addr) (us : List V) (g : Int) (rs more : List Rc) (dvs : List V), Lw K H17 n cl cs (1 + 100 * ((i + 1 : Nat) : Int)) p D b dx Tl us g rs more (7 * (i + 1)) (50 * (i + 1)) tl dvs ∧ ah ≤ g := ⟨_, _, _, _, _, _, _, _, lw17, by omega⟩
        refine isTurn_rd (K := K) (d14.tups fun x xs e => h17 _ _ (s16 _ _ (h15 _ _ e))) rfl (ite2 (fun htn => ?_) fun _ => ?_)
        focus
          have hm0 := htn13 htn
          refine ⟨_, rfl, b, _, _, _, _, rfl, lw17.sy.bk.obj, T.c_Book, T.nB_added, rfl, rfl, _, rfl, ite2 (fun hc => absurd hc (eq_vint (by rw [hm0]; rfl))) fun _ => ?_⟩
      rotate_left 2
      focus
        intro H13 D13 hd13 hss13 hN13 hF13 st13
        refine ⟨false, rfl, iteF ?_⟩
        obtain ⟨⟨on12, en12⟩, oc12, ec12⟩ := lw12.nk.has
        have nk13 : Nk H13 n cl cs (1 + 100 * i + 67) := (lw12.nk.keep fun x o hx e => st13.keep _ _ e (hx.elim (fun z => by rw [z]; exact lw12.en) fun z => by rw [z]; exact lw12.ec)).mono (by omega)
        have en13 : ¬ foot p D13 n := fun f => stp_not st13 en12 lw12.en (.inr f)
        have ec13 : ¬ foot p D13 cl := fun f => stp_not st13 ec12 lw12.ec (.inr f)
        have hul : D13.us.length = D13.ss.length := hd13.rel.1
        refine ⟨_, rfl, p, _, _, rfl, hd13.obj, rfl, _, rfl, _, rfl, p, _, _, rfl, hd13.obj, rfl, p, D13, rfl, hd13, ?_⟩
        intro H14 tw h14 htw
        refine ⟨tw, _, rfl, .inr (.of htw), n, cl, cs, _, D13.us.length, rfl, nk13.same h14, by omega, by omega, ?_⟩
        intro H15 l ns nk15 hl nl hlot st15
        have hd15 : DiskAt K H15 p D13 := (hd13.same h14).apart st15 fun x f z => en13 (show foot p D13 n from (show x = n from z) ▸ f)
        refine ⟨p, l, D13, ns, rfl, hd15, .of hl, hul ▸ hlot, by omega, ?_⟩
        intro H16 D16 hd16 hmay ess16 eN16 st16
        obtain ⟨g', rs', more', hb16, hg', hcase⟩ := hF13 D16.F hmay
        have tup16 : ∀ x xs, H12 x = some (.tup xs) → H16 x = some (.tup xs) := fun x xs e => st16.tup _ _ (st15.tup _ _ (h14 _ _ (st13.tup _ _ e)))
        have nk16 : Nk H16 n cl cs (1 + 100 * i + 79) := (nk15.keep fun x o hx e => st16.keep _ _ e (hx.elim (fun z => by rw [z]; exact en13) fun z => by rw [z]; exact ec13)).mono (by omega)
        obtain ⟨⟨on15, en15⟩, oc15, ec15⟩ := nk15.has
        have en16 := stp_not st16 en15 en13
        have ec16 := stp_not st16 ec15 ec13
        refine ⟨_, rfl, p, D16, g', rs', more', 7 * i + 7, rfl, hd16, hb16, by omega, ?_⟩
        intro H17 tt us17 h17 htt hus17
        have hlen17 : (rs' ++ more').length ≤ 300 := by
          by_cases hg : 0 < g'
          · have := hb16.length_le hg
            rw [List.length_append, List.length_cons] at this
            rw [List.length_append]
            omega
          · obtain ⟨e1, e2⟩ := hb16.zero (by have := hb16.g0; omega)
            rw [e1, e2]
            decide
        have so1 := recs_show hb16.good hlen17
        have so2 := recs_show lw.sy.st.good hold
        have so3 : ShowOk (.tuple (later.map Rc.dat)) := recs_show hgl.1 (by
          rcases d12 with ⟨_, _, rfl⟩ | ⟨_, x, rc, _, _, _, _, rfl⟩
          · have := own12.len; omega
          · rw
                [List.length_append, List.length_singleton]
            have : (rs ++ more).length ≤ 200 := by
              by_cases hg : 0 < g
              · have := lw.sy.st.length_le hg
                rw [List.length_append, List.length_cons] at this
                rw [List.length_append]
                omega
              · obtain ⟨e1, e2⟩ := lw.sy.st.zero (by have := lw.sy.st.g0; omega)
                rw [e1, e2]
                decide
            omega)
        have dpt : ∀ {H' : Hp} {a : Addr} {vs : List V} {q : List Rc}, H' a = some (.tup vs) → LR (RecR H') vs q → Dp K H' (.ref a) (.tuple (q.map Rc.dat)) := fun e r => .tup (.of e) (dp_recs r)
        have recs17 : ∀ {vs : List V} {q : List Rc}, LR (RecR H12) vs q → LR (RecR H17) vs q := fun h => lr_mono h fun r v ⟨x, e1, e2⟩ => ⟨x, e1, h17 _ _ (tup16 _ _ e2)⟩
        refine ⟨_, rfl, tt, _, rfl, dpt htt hus17, so1.s, so1.h, so1.p, so1.l, ?_⟩
        refine ⟨_, rfl, td, _, rfl, dpt (h17 _ _ (tup16 _ _ lw12.due)) (recs17 lw12.rel), so2.s, so2.h, so2.p, so2.l, ?_⟩
        refine ⟨_, rfl, tl, _, rfl, dpt (h17 _ _ (tup16 _ _ htl12)) (recs17 hlvs12), so3.s, so3.h, so3.p, so3.l, by show 2 ≤ sizeLine; decide, fun tq ntq => ?_⟩
        have hin : inV (V.str (PyData.tuple ((rs' ++ more').map Rc.dat)).shown) [V.str (PyData.tuple ((rs ++ more).map Rc.dat)).shown, V.str (PyData.tuple (later.map Rc.dat)).shown] = true := by
          rcases hcase with e | e
          · rw [e]
            simp [inV, eqV]
          · rw [e]
            simp [inV, eqV]
        refine ⟨tq, _, rfl, .inr (.of upd_same), rfl, rfl, _, rfl, ?_⟩
        rw [hin]
        refine iteF ?_
        have s18 := SameN (o := .tup [V.str (PyData.tuple ((rs ++ more).map Rc.dat)).shown, V.str (PyData.tuple (later.map Rc.dat)).shown]) ntq
        have hd18 := (hd16.same h17).same s18
        refine ⟨_, rfl, _, rfl, ?_⟩
        intro b' dx' nb nd _
        refine ⟨b', dx', p, D16, g', rs', more', 7 * i + 7, rfl, upd_same, init_disk hd18 nb nd, hb16, by omega, ?_⟩
        intro H19 Tl' us' sx hx hT nT hus
        obtain ⟨sy19, s19, sep19⟩ := book_made hd18 ess16 hb16 nb nd sx hx hT nT hus
        have nk18 := (nk16.same h17).same s18
        obtain ⟨⟨on18, en18⟩, oc18, ec18⟩ := nk18.has
        have lw19 : Lw K H19 n cl cs (1 + 100 * ((i + 1 : Nat) : Int)) p D16 b' dx' Tl' us' g' rs' more' (7 * (i + 1)) (50 * (i + 1)) tt us17 :=
          ⟨(nk18.same s19).mono (by omega), sy19, by omega, sep19 _ _ en18 en16, sep19 _ _ ec18 ec16, s19 _ _ (s18 _ _ htt), lr_mono hus17 (rec_same (s18.trans s19))⟩
        refine ⟨rfl, _, _, rfl, ?_⟩
        refine ⟨_, rfl, _, rfl, _, rfl, p, b', dx', tt, Tl', D16, us', us17, g', rs', more', _, rfl, lw19.sy, by omega, lw19.due, lw19.rel, ?_⟩
        intro H20 h20
        refine ⟨true, rfl, iteF ?_⟩
        have hJ : ∃ (D : Dk) (dx Tl : Addr) (us : List V) (g : Int) (rs more : List Rc) (dvs : List V), Lw K H20 n cl cs (1 + 100 * ((i + 1 : Nat) : Int)) p D b' dx Tl us g rs more (7 * (i + 1)) (50 * (i + 1)) tt dvs ∧ ah ≤ g := ⟨_, _, _, _, _, _, _, _, lw19.same h20, by omega⟩
      all_goals
        obtain ⟨D20, dx20, Tl20, us20, g20, rs20, more20, dvs20, L, hah20⟩ := hJ
        refine ⟨_, rfl, _, _, _, _, _, rfl, L.sy.bk.obj, T.c_Book, T.nB_generation, rfl, _, rfl, g20, ah, rfl, rfl, _, rfl, ite2 (fun hc => absurd (of_decide_eq_true hc) (by omega)) fun _ => ?_⟩
        refine ⟨_, rfl, _, rfl, ?_⟩
        intro b21 dx21 nb21 nd21 _
        refine ⟨b21, dx21, p, D20, g20, rs20, more20, 7 * (i + 1), rfl, upd_same, init_disk L.sy.dk nb21 nd21, L.sy.st, by omega, ?_⟩
        intro H21 Tl21 us21 sx21 hx21 hT21 nT21 hus21
        obtain ⟨sy21, s21, _⟩ := book_made L.sy.dk L.sy.em L.sy.st nb21 nd21 sx21 hx21 hT21 nT21 hus21
        refine ⟨rfl, _, rfl, p, b21, dx21, _, Tl21, D20, us21, dvs20, g20, rs20, more20, 7 * (i + 1), rfl, sy21, by omega, s21 _ _ L.due, lr_mono L.rel (rec_same s21), ?_⟩
        intro H22 h22
        refine ⟨true, rfl, iteF ?_⟩
        have L22 := (L.same s21).same h22
        exact ⟨_, rfl, _, _, _, _, _, rfl, L22.sy.bk.obj, T.c_Book, T.nB_generation, rfl, _, _, g20, ⟨_, _, _, _, _, _, _, _, rfl⟩, D20, dx20, Tl20, us20, g20, rs20, more20, dvs20, L22, Int.le_refl _⟩
    · rintro σ H7 ⟨td, b, ah, ⟨x6, x7, x8, x9, x10, x11, x12, x13, rfl⟩, D, dx, Tl, us, g, rs, more, dvs, lw, hah⟩
      refine ⟨_, rfl, td, rfl, ⟨_, .of lw.due⟩, fun D8 nD => ?_⟩
      have hgood := lw.sy.st.good
      refine lc_tup (K := K) (a := td) (xs := dvs) (fun i H' => Same H7 H' ∧ H' D8 = some (.lst [])) ⟨SameN nD, upd_same⟩ (fun i H' _ h => .of (h.1 _ _ lw.due)) ?_ ?_
      · rintro i x H8 hx ⟨h8, hD8⟩
        obtain ⟨r, er, hr2⟩ := lr_at lw.rel hx
        obtain ⟨aa, rfl, haa⟩ := rec_same h8 _ _ hr2
        refine ⟨rfl, _, rfl, aa, r, rfl, .of haa, hgood r (List.mem_of_getElem? er), fun H9 h9 => ⟨true, true, rfl, rfl, _, rfl, iteF ⟨h8.trans h9, h9 _ _ hD8⟩⟩⟩
      · rintro H8 ⟨h8, hD8⟩
        refine ⟨Nat.zero_le _, fun l nl => ?_⟩
        have s9 := SameN (o := .lst []) nl
        exact ⟨.list [], .list [], .lst (.of (s9 _ _ hD8)) .nil, .lst (.of upd_same) .nil, rfl, rfl, q _⟩
end
end PB

namespace PB
open PySem PySem.Spec PyProof.Rows L2
theorem same_fd {K : PySem.W.Frag} {x : Str} {st : Stmt} {f : Addr} {fd fd2 : FuncData} (F : FnP K x st f fd) (F2 : FnP K x st f fd2) : fd2 = fd := by
  obtain ⟨_, _, _, _, _, _, _, _, _, _, _, lk, _⟩ := F.ex
  obtain ⟨_, _, _, _, _, _, _, _, _, _, _, lk2, _⟩ := F2.ex
  rw [lk] at lk2
  cases lk2
  rfl
theorem facts {P : Program} {w : World} {K : PySem.W.Frag} {h : Heap} {mg : Str → Option Value} {f : Addr} (X : K.In h) (G : h.Ns mainGlobals mg) (hfa : mg ("law" : Str) = some (.ref f)) (c : SaysP K) :
    ∃ fd : FuncData, (∀ (s : Shared) (v : Value), BindsTo s fd ⟨[v], []⟩ [("_law_script", v)]) ∧ ∀ base : Heap, K.In base → base.Ns mainGlobals mg → FnG P w K mg base 9 f fd ["_law_script"] (spLaw K) := by
  have T : Ev K mg := ⟨c, h, X, G⟩
  obtain ⟨fd, F⟩ := c.1.def_ 33 rfl
  have e := hfa.symm.trans T.g_law
  cases e
  have b := FunD.bindsA (ps := ["_law_script"]) F fun _ _ _ _ _ _ us hl => match us, hl with | [_], _ => rfl
  refine ⟨fd, fun s v => b s [v] rfl, fun base _ _ => ?_⟩
  obtain ⟨fd2, G2, F2⟩ := ok_law (P := P) (w := w) (base := base) T
  exact same_fd F F2 ▸ G2
end PB
open PySem PySem.W PySem.Calls PyProof.Rows
theorem PySem.Challenge.cw_priceblind_k86_whole_books_torn_anywhere_holds : PySem.Challenge.rw_priceblind_k86_whole_books_torn_anywhere.Holds := by
  w_on; o_law
  refine HandSHeadRun.head_any (r := OpenLaw.row PySem.Challenge.rw_priceblind_k86_whole_books_torn_anywhere) (q := view (OpenLaw.row PySem.Challenge.rw_priceblind_k86_whole_books_torn_anywhere).prog [56]) (H := PB.hk) (ob := PB.ob) (M := 6000) (loose := PB.loose) (d := HandSHeadRun.topDef (OpenLaw.row PySem.Challenge.rw_priceblind_k86_whole_books_torn_anywhere).prog 56) (kwd := []) PB.ob_eq
    (by kernel_rfl) (fun s => by kernel_rfl) PB.run (by kernel_rfl) (by kernel_rfl) (by kernel_rfl) (by rfl) (by first | assumption | decide +kernel) (by decide +kernel) ⟨rfl, rfl, rfl, rfl, rfl, by decide +kernel⟩ ?hw ?hc
  case hw => w_witness2
  case hc =>
    refine PB.walk_G (l := PySem.Challenge.rw_priceblind_k86_whole_books_torn_anywhere) (n := 63) (k := 9) (x := "_law_script") rfl (by decide) (by kernel_rfl) ⟨rfl, by decide, by decide⟩ ?F
    intro w mg fa h Y G hmg0
    obtain ⟨K, KX, c⟩ := Y
    have
        hmg : mg ("law" : PySem.Str) = some (.ref fa) := by
      have e : (HandSHeadRun.topDef (OpenLaw.row PySem.Challenge.rw_priceblind_k86_whole_books_torn_anywhere).prog 56).name = ("law" : PySem.Str) := by kernel_rfl
      rw [← e]
      exact hmg0
    obtain ⟨fd, hb, hF⟩ := PB.facts (P := (PySem.Challenge.rw_priceblind_k86_whole_books_torn_anywhere).prog) (w := w) KX G hmg c
    exact ⟨K, fd, PB.spLaw K, KX, hb, fun H a ns hl _ hS => ⟨a, ns, rfl, hS, fun _ => rfl⟩, hF⟩
