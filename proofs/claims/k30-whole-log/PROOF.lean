import PyProof.Rows.All
import Wide.All
import OpenK.AllK
import Wide.FinOn
import KE.KStateDown
import HandS.ForMost
import HandS.Exc
import HandS.Defaults
import HandS.More
import HandS.Codes
import HandS.Walk
import HandS.Conv
import HandS.NoneIn
import HandS.SetKeys
import HandS.SortInts
import HandS.Zip
import HandS.TupMul
import HandS.TupAny
import HandS.IterVal
import HandS.DeepEq
import HandS.Head0
import HandS.Head1
import HandS.Head2
import HandS.HeadEnd
import HandS.HeadHook1
import HandS.HeadHook2
import HandS.Base
import HandS.Call
import HandS.Ends
import HandS.Words
import KE.GoesMore
import HandS.GenList
import HandS.MakeKwOnly
import KE.DataMinMax
import HandS.SortKw
import KE.KDictZip
import HandS.ExcValue
import HandS.Deep
import PyProof.P3Eq
import PySem.Challenge.RW_segmentfs_k30_whole_log_is_a_prefix_behi
set_option Elab.async false
set_option linter.all false
set_option maxRecDepth 100000
set_option maxHeartbeats 4000000
namespace K30
open PySem PySem.Spec PyProof.Rows L2
def top (i : Nat) : Stmt := PySem.Challenge.pw_segmentfs_k30_whole_log_is_a_prefix_behi.main.body.getD i (.Pass ⟨0, 0, 0, 0⟩)
abbrev s_is_payload : Stmt := top 7
abbrev s_payload_of : Stmt := top 8
abbrev s_stamped : Stmt := top 9
abbrev s_Layout___init__ : Stmt := inClass (top 21) 0
abbrev s_parts_of : Stmt := top 22
abbrev s_address_at : Stmt := top 23
abbrev s_segment_of : Stmt := top 24
abbrev s_region_start : Stmt := top 25
abbrev s_Counts___init__ : Stmt := inClass (top 27) 0
abbrev s_empty_table : Stmt := top 29
abbrev s_commit_to_table : Stmt := top 30
abbrev s_slots_after : Stmt := top 31
abbrev s_move_in_table : Stmt := top 32
abbrev s_Log___init__ : Stmt := inClass (top 34) 0
abbrev s_payload_at : Stmt := top 35
abbrev s_live_addresses : Stmt := top 36
abbrev s_next_sequence : Stmt := top 37
abbrev s_enter_segment : Stmt := top 38
abbrev s_take_batch : Stmt := top 39
abbrev s_write_batch : Stmt := top 40
abbrev s_append_commit : Stmt := top 41
abbrev s_append_move : Stmt := top 42
abbrev s_sync_log : Stmt := top 43
abbrev s_checkpoint_numbers : Stmt := top 45
abbrev s_read_numbers : Stmt := top 46
abbrev s_extended_queue : Stmt := top 47
abbrev s_write_checkpoint : Stmt := top 48
abbrev s_new_log : Stmt := top 50
abbrev s_checkpoint_in : Stmt := top 51
abbrev s_batch_at : Stmt := top 52
abbrev s_take_next : Stmt := top 53
abbrev s_recover : Stmt := top 54
abbrev s_mount_log : Stmt := top 55
abbrev s_Device___init__ : Stmt := inClass (top 57) 0
abbrev s_Device_read : Stmt := inClass (top 57) 1
abbrev s_Device_write : Stmt := inClass (top 57) 2
abbrev s_Device_barrier : Stmt := inClass (top 57) 3
abbrev s_Device_cut_after : Stmt := inClass (top 57) 4
abbrev s_Device_was_cut : Stmt := inClass (top 57) 5
abbrev s_Device_pending : Stmt := inClass (top 57) 6
abbrev s_Device_left : Stmt := inClass (top 57) 8
abbrev s_Device_written_blocks : Stmt := inClass (top 57) 9
abbrev s_Device__count_command : Stmt := inClass (top 57) 11
abbrev s_live_counts : Stmt := top 59
abbrev s_ages : Stmt := top 60
abbrev s_candidates : Stmt := top 61
abbrev s_victims : Stmt := top 63
abbrev s_cargo : Stmt := top 64
abbrev s_fill : Stmt := top 65
abbrev s_is_better : Stmt := top 67
abbrev s_order_candidates : Stmt := top 68
abbrev s_has_room : Stmt := top 70
abbrev s_make_room : Stmt := top 71
abbrev s_clean_log : Stmt := top 72
abbrev s__law_row : Stmt := top 74
abbrev s__law_digits : Stmt := top 75
abbrev s__law_layout : Stmt := top 76
abbrev s__law_contents : Stmt := top 77
abbrev s__law_after : Stmt := top 78
abbrev s__law_payloads : Stmt := top 79
abbrev s__law_ids : Stmt := top 80
abbrev s__law_used : Stmt := top 81
abbrev s__law_live : Stmt := top 82
abbrev s__law_failure : Stmt := top 83
abbrev s__law_points : Stmt := top 84
abbrev s__law_quiet : Stmt := top 85
abbrev s__law_epoch : Stmt := top 86
abbrev s_law : Stmt := top 87
def d_is_payload : He.DefD := ⟨("is_payload", none), "is_payload", "is_payload", defArgs s_is_payload, defBody s_is_payload, defScope s_is_payload, [], []⟩
def d_payload_of : He.DefD := ⟨("payload_of", none), "payload_of", "payload_of", defArgs s_payload_of, defBody s_payload_of, defScope s_payload_of, [], []⟩
def d_stamped : He.DefD := ⟨("stamped", none), "stamped", "stamped", defArgs s_stamped, defBody s_stamped, defScope s_stamped, [], []⟩
def d_Layout___init__ : He.DefD := ⟨("Layout", some "__init__"), "__init__", "Layout.__init__", defArgs s_Layout___init__, defBody s_Layout___init__, defScope s_Layout___init__, [], []⟩
def d_parts_of : He.DefD := ⟨("parts_of", none), "parts_of", "parts_of", defArgs s_parts_of, defBody s_parts_of, defScope s_parts_of, [], []⟩
def d_address_at : He.DefD := ⟨("address_at", none), "address_at", "address_at", defArgs s_address_at, defBody s_address_at, defScope s_address_at, [], []⟩
def d_segment_of : He.DefD := ⟨("segment_of", none), "segment_of", "segment_of", defArgs s_segment_of, defBody s_segment_of, defScope s_segment_of, [], []⟩
def d_region_start : He.DefD := ⟨("region_start", none), "region_start", "region_start", defArgs s_region_start, defBody s_region_start, defScope s_region_start, [], []⟩
def d_Counts___init__ : He.DefD := ⟨("Counts", some "__init__"), "__init__", "Counts.__init__", defArgs s_Counts___init__, defBody s_Counts___init__, defScope s_Counts___init__, [], []⟩
def d_empty_table : He.DefD := ⟨("empty_table", none), "empty_table", "empty_table", defArgs s_empty_table, defBody s_empty_table, defScope s_empty_table, [], []⟩
def d_commit_to_table : He.DefD := ⟨("commit_to_table", none), "commit_to_table", "commit_to_table", defArgs s_commit_to_table, defBody s_commit_to_table, defScope s_commit_to_table, [], []⟩
def d_slots_after : He.DefD := ⟨("slots_after", none), "slots_after", "slots_after", defArgs s_slots_after, defBody s_slots_after, defScope s_slots_after, [], []⟩
def d_move_in_table : He.DefD := ⟨("move_in_table", none), "move_in_table", "move_in_table", defArgs s_move_in_table, defBody s_move_in_table, defScope s_move_in_table, [], []⟩
def d_Log___init__ : He.DefD := ⟨("Log", some "__init__"), "__init__", "Log.__init__", defArgs s_Log___init__, defBody s_Log___init__, defScope s_Log___init__, [], []⟩
def d_payload_at : He.DefD := ⟨("payload_at", none), "payload_at", "payload_at", defArgs s_payload_at, defBody s_payload_at, defScope s_payload_at, [], []⟩
def d_live_addresses : He.DefD := ⟨("live_addresses", none), "live_addresses", "live_addresses", defArgs s_live_addresses, defBody s_live_addresses, defScope s_live_addresses, [], []⟩
def d_next_sequence : He.DefD := ⟨("next_sequence", none), "next_sequence", "next_sequence", defArgs s_next_sequence, defBody s_next_sequence, defScope s_next_sequence, [], []⟩
def d_enter_segment : He.DefD := ⟨("enter_segment", none), "enter_segment", "enter_segment", defArgs s_enter_segment, defBody s_enter_segment, defScope s_enter_segment, [], []⟩
def d_take_batch : He.DefD := ⟨("take_batch", none), "take_batch", "take_batch", defArgs s_take_batch, defBody s_take_batch, defScope s_take_batch, [], []⟩
def d_write_batch : He.DefD := ⟨("write_batch", none), "write_batch", "write_batch", defArgs s_write_batch, defBody s_write_batch, defScope s_write_batch, [], []⟩
def d_append_commit : He.DefD := ⟨("append_commit", none), "append_commit", "append_commit", defArgs s_append_commit, defBody s_append_commit, defScope s_append_commit, [], []⟩
def d_append_move : He.DefD := ⟨("append_move", none), "append_move", "append_move", defArgs s_append_move, defBody s_append_move, defScope s_append_move, [], []⟩
def d_sync_log : He.DefD := ⟨("sync_log", none), "sync_log", "sync_log", defArgs s_sync_log, defBody s_sync_log, defScope s_sync_log, [], []⟩
def d_checkpoint_numbers : He.DefD := ⟨("checkpoint_numbers", none), "checkpoint_numbers", "checkpoint_numbers", defArgs s_checkpoint_numbers, defBody s_checkpoint_numbers, defScope s_checkpoint_numbers, [], []⟩
def d_read_numbers : He.DefD := ⟨("read_numbers", none), "read_numbers", "read_numbers", defArgs s_read_numbers, defBody s_read_numbers, defScope s_read_numbers, [], []⟩
def d_extended_queue : He.DefD := ⟨("extended_queue", none), "extended_queue", "extended_queue", defArgs s_extended_queue, defBody s_extended_queue, defScope s_extended_queue, [], []⟩
def d_write_checkpoint : He.DefD := ⟨("write_checkpoint", none), "write_checkpoint", "write_checkpoint", defArgs s_write_checkpoint, defBody s_write_checkpoint, defScope s_write_checkpoint, [], []⟩
def d_new_log : He.DefD := ⟨("new_log", none), "new_log", "new_log", defArgs s_new_log, defBody s_new_log, defScope s_new_log, [], []⟩
def d_checkpoint_in : He.DefD := ⟨("checkpoint_in", none), "checkpoint_in", "checkpoint_in", defArgs s_checkpoint_in, defBody s_checkpoint_in, defScope s_checkpoint_in, [], []⟩
def d_batch_at : He.DefD := ⟨("batch_at", none), "batch_at", "batch_at", defArgs s_batch_at, defBody s_batch_at, defScope s_batch_at, [], []⟩
def d_take_next : He.DefD := ⟨("take_next", none), "take_next", "take_next", defArgs s_take_next, defBody s_take_next, defScope s_take_next, [], []⟩
def d_recover : He.DefD := ⟨("recover", none), "recover", "recover", defArgs s_recover, defBody s_recover, defScope s_recover, [], []⟩
def d_mount_log : He.DefD := ⟨("mount_log", none), "mount_log", "mount_log", defArgs s_mount_log, defBody s_mount_log, defScope s_mount_log, [], []⟩
def d_Device___init__ : He.DefD := ⟨("Device", some "__init__"), "__init__", "Device.__init__", defArgs s_Device___init__, defBody s_Device___init__, defScope s_Device___init__, [.non], []⟩
def d_Device_read : He.DefD := ⟨("Device", some "read"), "read", "Device.read", defArgs s_Device_read, defBody s_Device_read, defScope s_Device_read, [], []⟩
def d_Device_write : He.DefD := ⟨("Device", some "write"), "write", "Device.write", defArgs s_Device_write, defBody s_Device_write, defScope s_Device_write, [], []⟩
def d_Device_barrier : He.DefD := ⟨("Device", some "barrier"), "barrier", "Device.barrier", defArgs s_Device_barrier, defBody s_Device_barrier, defScope s_Device_barrier, [], []⟩
def d_Device_cut_after : He.DefD := ⟨("Device", some "cut_after"), "cut_after", "Device.cut_after", defArgs s_Device_cut_after, defBody s_Device_cut_after, defScope s_Device_cut_after, [], []⟩
def d_Device_was_cut : He.DefD := ⟨("Device", some "was_cut"), "was_cut", "Device.was_cut", defArgs s_Device_was_cut, defBody s_Device_was_cut, defScope s_Device_was_cut, [], []⟩
def d_Device_pending : He.DefD := ⟨("Device", some "pending"), "pending", "Device.pending", defArgs s_Device_pending, defBody s_Device_pending, defScope s_Device_pending, [], []⟩
def d_Device_left : He.DefD := ⟨("Device", some "left"), "left", "Device.left", defArgs s_Device_left, defBody s_Device_left, defScope s_Device_left, [], [("torn", .adr (fun K => match K.lookup (He.fAd K ("Device", some "left")) with | some ⟨_, _, .func fd, _⟩ => (match fd.kwdefaults with | .ref D => (match PySem.W.nsIn K D "torn" with | some (some (.ref a)) => a | _ => 0) | _ => 0) | _ => 0))]⟩
def d_Device_written_blocks : He.DefD := ⟨("Device", some "written_blocks"), "written_blocks", "Device.written_blocks", defArgs s_Device_written_blocks, defBody s_Device_written_blocks, defScope s_Device_written_blocks, [], []⟩
def d_Device__count_command : He.DefD := ⟨("Device", some "_count_command"), "_count_command", "Device._count_command", defArgs s_Device__count_command, defBody s_Device__count_command, defScope s_Device__count_command, [], []⟩
def d_live_counts : He.DefD := ⟨("live_counts", none), "live_counts", "live_counts", defArgs s_live_counts, defBody s_live_counts, defScope s_live_counts, [], []⟩
def d_ages : He.DefD := ⟨("ages", none), "ages", "ages", defArgs s_ages, defBody s_ages, defScope s_ages, [], []⟩
def d_candidates : He.DefD := ⟨("candidates", none), "candidates", "candidates", defArgs s_candidates, defBody s_candidates, defScope s_candidates, [], []⟩
def d_victims : He.DefD := ⟨("victims", none), "victims", "victims", defArgs s_victims, defBody s_victims, defScope s_victims, [], []⟩
def d_cargo : He.DefD := ⟨("cargo", none), "cargo", "cargo", defArgs s_cargo, defBody s_cargo, defScope s_cargo, [], []⟩
def d_fill : He.DefD := ⟨("fill", none), "fill", "fill", defArgs s_fill, defBody s_fill, defScope s_fill, [], []⟩
def d_is_better : He.DefD := ⟨("is_better", none), "is_better", "is_better", defArgs s_is_better, defBody s_is_better, defScope s_is_better, [], []⟩
def d_order_candidates : He.DefD := ⟨("order_candidates", none), "order_candidates", "order_candidates", defArgs s_order_candidates, defBody s_order_candidates, defScope s_order_candidates, [], []⟩
def d_has_room : He.DefD := ⟨("has_room", none), "has_room", "has_room", defArgs s_has_room, defBody s_has_room, defScope s_has_room, [], []⟩
def d_make_room : He.DefD := ⟨("make_room", none), "make_room", "make_room", defArgs s_make_room, defBody s_make_room, defScope s_make_room, [], [("policy", .str "greedy")]⟩
def d_clean_log : He.DefD := ⟨("clean_log", none), "clean_log", "clean_log", defArgs s_clean_log, defBody s_clean_log, defScope s_clean_log, [], [("policy", .str "greedy")]⟩
def d__law_row : He.DefD := ⟨("_law_row", none), "_law_row", "_law_row", defArgs s__law_row, defBody s__law_row, defScope s__law_row, [], []⟩
def d__law_digits : He.DefD := ⟨("_law_digits", none), "_law_digits", "_law_digits", defArgs s__law_digits, defBody s__law_digits, defScope s__law_digits, [], []⟩
def d__law_layout : He.DefD := ⟨("_law_layout", none), "_law_layout", "_law_layout", defArgs s__law_layout, defBody s__law_layout, defScope s__law_layout, [], []⟩
def d__law_contents : He.DefD := ⟨("_law_contents", none), "_law_contents", "_law_contents", defArgs s__law_contents, defBody s__law_contents, defScope s__law_contents, [], []⟩
def d__law_after : He.DefD := ⟨("_law_after", none), "_law_after", "_law_after", defArgs s__law_after, defBody s__law_after, defScope s__law_after, [], []⟩
def d__law_payloads : He.DefD := ⟨("_law_payloads", none), "_law_payloads", "_law_payloads", defArgs s__law_payloads, defBody s__law_payloads, defScope s__law_payloads, [], []⟩
def d__law_ids : He.DefD := ⟨("_law_ids", none), "_law_ids", "_law_ids", defArgs s__law_ids, defBody s__law_ids, defScope s__law_ids, [], []⟩
def d__law_used : He.DefD := ⟨("_law_used", none), "_law_used", "_law_used", defArgs s__law_used, defBody s__law_used, defScope s__law_used, [], []⟩
def d__law_live : He.DefD := ⟨("_law_live", none), "_law_live", "_law_live", defArgs s__law_live, defBody s__law_live, defScope s__law_live, [], []⟩
def d__law_failure : He.DefD := ⟨("_law_failure", none), "_law_failure", "_law_failure", defArgs s__law_failure, defBody s__law_failure, defScope s__law_failure, [], []⟩
def d__law_points : He.DefD := ⟨("_law_points", none), "_law_points", "_law_points", defArgs s__law_points, defBody s__law_points, defScope s__law_points, [], []⟩
def d__law_quiet : He.DefD := ⟨("_law_quiet", none), "_law_quiet", "_law_quiet", defArgs s__law_quiet, defBody s__law_quiet, defScope s__law_quiet, [], []⟩
def d__law_epoch : He.DefD := ⟨("_law_epoch", none), "_law_epoch", "_law_epoch", defArgs s__law_epoch, defBody s__law_epoch, defScope s__law_epoch, [], []⟩
def d_law : He.DefD := ⟨("law", none), "law", "law", defArgs s_law, defBody s_law, defScope s_law, [], []⟩
def fa0 : List He.Fa := [.glo "is_payload", .glo "payload_of", .glo "stamped", .glo "parts_of", .glo "address_at", .glo "segment_of", .glo "region_start", .glo "empty_table", .glo "commit_to_table", .glo "slots_after"]
def fa1 : List He.Fa := [.glo "move_in_table", .glo "payload_at", .glo "live_addresses", .glo "next_sequence", .glo "enter_segment", .glo "take_batch", .glo "write_batch", .glo "append_commit", .glo "append_move", .glo "sync_log"]
def fa2 : List He.Fa := [.glo "checkpoint_numbers", .glo "read_numbers", .glo "extended_queue", .glo "write_checkpoint", .glo "new_log", .glo "checkpoint_in", .glo "batch_at", .glo "take_next", .glo "recover", .glo "mount_log"]
def fa3 : List He.Fa := [.glo "live_counts", .glo "ages", .glo "candidates", .glo "victims", .glo "cargo", .glo "fill", .glo "is_better", .glo "order_candidates", .glo "has_room", .glo "make_room"]
def fa4 : List He.Fa := [.glo "clean_log", .glo "_law_row", .glo "_law_digits", .glo "_law_layout", .glo "_law_contents", .glo "_law_after", .glo "_law_payloads", .glo "_law_ids", .glo "_law_used", .glo "_law_live"]
def fa5 : List He.Fa := [.glo "_law_failure", .glo "_law_points", .glo "_law_quiet", .glo "_law_epoch", .glo "law", .glo "Layout", .cls "Layout", .mkr "Layout", .noat "Layout" "segments", .noat "Layout" "segment_blocks"]
def fa6 : List He.Fa := [.noat "Layout" "block_size", .noat "Layout" "payload", .noat "Layout" "limit", .noat "Layout" "last_id", .noat "Layout" "fan", .noat "Layout" "region_blocks", .noat "Layout" "device_blocks", .meth "Layout" "__init__", .glo "Counts", .cls "Counts"]
def fa7 : List He.Fa := [.mkr "Counts", .noat "Counts" "commits", .noat "Counts" "commit_blocks", .noat "Counts" "moves", .noat "Counts" "move_blocks", .noat "Counts" "checkpoints", .noat "Counts" "checkpoint_blocks", .noat "Counts" "barriers", .meth "Counts" "__init__", .glo "Log"]
def fa8 : List He.Fa := [.cls "Log", .mkr "Log", .noat "Log" "device", .noat "Log" "layout", .noat "Log" "present", .noat "Log" "slots", .noat "Log" "head", .noat "Log" "place", .noat "Log" "queue", .noat "Log" "last_sequence"]
def fa9 : List He.Fa := [.noat "Log" "region", .noat "Log" "counts", .meth "Log" "__init__", .glo "Device", .cls "Device", .mkr "Device", .noat "Device" "layout", .noat "Device" "sure", .noat "Device" "seen", .noat "Device" "waiting"]
def fa10 : List He.Fa := [.noat "Device" "fuse", .noat "Device" "dark", .meth "Device" "__init__", .meth "Device" "read", .meth "Device" "write", .meth "Device" "barrier", .meth "Device" "cut_after", .meth "Device" "was_cut", .meth "Device" "pending", .meth "Device" "left"]
def fa11 : List He.Fa := [.meth "Device" "written_blocks", .meth "Device" "_count_command", .int "COMMIT" 1, .int "MOVE" 2, .int "DATA" 3, .int "NODE" 4, .int "PART" 5, .int "LEAST_SEGMENTS" 4, .int "MOST_SEGMENTS" 16, .int "LEAST_BLOCKS" 16]
def fa12 : List He.Fa := [.int "MOST_BLOCKS" 32, .int "HEAD_OCTETS" 16, .int "SLOTS" 3, .free "enumerate", .free "int", .free "len", .free "list", .free "max", .free "range", .free "sorted"]
def fa13 : List He.Fa := [.free "tuple", .free "zip"]
def fa : List He.Fa := fa0 ++ fa1 ++ fa2 ++ fa3 ++ fa4 ++ fa5 ++ fa6 ++ fa7 ++ fa8 ++ fa9 ++ fa10 ++ fa11 ++ fa12 ++ fa13
def fn0 : List He.DefD := [d_is_payload, d_payload_of, d_stamped, d_Layout___init__, d_parts_of, d_address_at, d_segment_of, d_region_start, d_Counts___init__, d_empty_table]
def fn1 : List He.DefD := [d_commit_to_table, d_slots_after, d_move_in_table, d_Log___init__, d_payload_at, d_live_addresses, d_next_sequence, d_enter_segment, d_take_batch, d_write_batch]
def fn2 : List He.DefD := [d_append_commit, d_append_move, d_sync_log, d_checkpoint_numbers, d_read_numbers, d_extended_queue, d_write_checkpoint, d_new_log, d_checkpoint_in, d_batch_at]
def fn3 : List He.DefD := [d_take_next, d_recover, d_mount_log, d_Device___init__, d_Device_read, d_Device_write, d_Device_barrier, d_Device_cut_after, d_Device_was_cut, d_Device_pending]
def fn4 : List He.DefD := [d_Device_left, d_Device_written_blocks, d_Device__count_command, d_live_counts, d_ages, d_candidates, d_victims, d_cargo, d_fill, d_is_better]
def fn5 : List He.DefD := [d_order_candidates, d_has_room, d_make_room, d_clean_log, d__law_row, d__law_digits, d__law_layout, d__law_contents, d__law_after, d__law_payloads]
def fn6 : List He.DefD := [d__law_ids, d__law_used, d__law_live, d__law_failure, d__law_points, d__law_quiet, d__law_epoch, d_law]
def fn : List He.DefD := fn0 ++ fn1 ++ fn2 ++ fn3 ++ fn4 ++ fn5 ++ fn6
def nm0 : List PySem.Str := ["_wall", "COMMIT", "MOVE", "DATA", "NODE", "PART", "is_payload", "payload_of", "stamped", "SegmentError"]
def nm1 : List PySem.Str := ["InvalidFormat", "NoCheckpoint", "LEAST_SEGMENTS", "MOST_SEGMENTS", "LEAST_BLOCKS", "MOST_BLOCKS", "HEAD_OCTETS", "SLOTS", "Layout", "parts_of"]
def nm2 : List PySem.Str := ["address_at", "segment_of", "region_start", "Counts", "empty_table", "commit_to_table", "slots_after", "move_in_table", "Log", "payload_at"]
def nm3 : List PySem.Str := ["live_addresses", "next_sequence", "enter_segment", "take_batch", "write_batch", "append_commit", "append_move", "sync_log", "checkpoint_numbers", "read_numbers"]
def nm4 : List PySem.Str := ["extended_queue", "write_checkpoint", "new_log", "checkpoint_in", "batch_at", "take_next", "recover", "mount_log", "Device", "live_counts"]
def nm5 : List PySem.Str := ["ages", "candidates", "victims", "cargo", "fill", "is_better", "order_candidates", "has_room", "make_room", "clean_log"]
def nm6 : List PySem.Str := ["_law_row", "_law_digits", "_law_layout", "_law_contents", "_law_after", "_law_payloads", "_law_ids", "_law_used", "_law_live", "_law_failure"]
def nm7 : List PySem.Str := ["_law_points", "_law_quiet", "_law_epoch"]
def nms : List PySem.Str := nm0 ++ nm1 ++ nm2 ++ nm3 ++ nm4 ++ nm5 ++ nm6 ++ nm7
abbrev R : PySem.W.OpenRow := PySem.W.OpenLaw.row PySem.Challenge.rw_segmentfs_k30_whole_log_is_a_prefix_behi
abbrev hk : PySem.W.Hook := He.hookD 4 fa fn
def ob (s : PySem.W.SharedT) : He.AlD := He.obsDG 4 fa fn (HandSHeadRun.getT s)
theorem ob_eq (s : PySem.W.SharedT) : ob s = hk.obs s.abs := He.obsDG_eq (HandSHeadRun.getT_eq s)
end K30

namespace K30
section
open PySem PySem.W PySem.Calls PyProof.Rows
set_option maxHeartbeats 0 in
theorem run (w : World) : HandSHeadRun.RunEq R (PySem.W.view R.prog [87]) hk ob 6000 nms w := by
  intro os
  kernel_rfl
end
end K30
namespace K30
/-! ## M1: layouts, blocks, batches, tables (plain Lean) -/
structure Lay where
  segs : Nat
  blks : Nat
  bs : Nat
namespace Lay
def pay (L : Lay) : Nat := L.blks - 1
def lim (L : Lay) : Nat := (L.segs - 2) * L.pay
def lastId (L : Lay) : Nat := L.lim + L.pay
def fan (L : Lay) : Nat := L.bs / 2
def nums (L : Lay) : Nat := 4 * L.lastId + 6 + L.segs
def rb (L : Lay) : Nat := (2 * L.nums + L.bs - 1) / L.bs
def db (L : Lay) : Nat := 2 * L.rb + L.segs * L.blks
def ad (L : Lay) (g p : Nat) : Nat := 2 * L.rb + g * L.blks + p
structure Ok (L : Lay) : Prop where
  s4 : 4 ≤ L.segs
  s16 : L.segs ≤ 16
  b16 : 16 ≤ L.blks
  b32 : L.blks ≤ 32
  z : L.bs = 64 ∨ L.bs = 128 ∨ L.bs = 256
end Lay
theorem divB {b g p : Nat} (h : p < b) : (g * b + p) / b = g := by
  rw [Nat.mul_comm, Nat.mul_add_div (by omega), Nat.div_eq_of_lt h, Nat.add_zero]
theorem ad_inj {L : Lay} {g p g' p' : Nat} (hp : p < L.blks) (hp' : p' < L.blks) (h : L.ad g p = L.ad g' p') : g = g' ∧ p = p' := by
  have h1 : g * L.blks + p = g' * L.blks + p' := by unfold Lay.ad at h; omega
  have e : g = g' := by rw [← divB (g := g) hp, h1, divB hp']
  subst e
  exact ⟨rfl, by omega⟩
theorem ad_lt {L : Lay} {g p : Nat} (hg : g < L.segs) (hp : p < L.blks) : L.ad g p < L.db := by
  have h1 : (g + 1) * L.blks ≤ L.segs * L.blks := Nat.mul_le_mul_right _ hg
  rw [Nat.add_mul] at h1
  unfold Lay.ad Lay.db
  omega
theorem ad_ge {L : Lay} {g p : Nat} : 2 * L.rb ≤ L.ad g p := by unfold Lay.ad; omega
theorem ad_add {L : Lay} {g p i : Nat} : L.ad g p + i = L.ad g (p + i) := by unfold Lay.ad; omega

inductive Body where
  | com (ids used : List Nat) (act : Nat)
  | flat (xs : List Nat)
structure Blk where
  kind : Nat
  seq : Nat
  rank : Nat
  body : Body
abbrev Rd := Nat → Option Blk
def isCom : Body → Bool
  | .com _ _ _ => true
  | _ => false
def Body.cnt : Body → Nat
  | .com ids _ _ => ids.length
  | .flat xs => xs.length
def Body.xs : Body → List Nat
  | .com _ _ _ => []
  | .flat xs => xs
/-- what a block looks like -/
structure Blk.Wt (L : Lay) (b : Blk) : Prop where
  k1 : 1 ≤ b.kind
  k5 : b.kind ≤ 5
  c : isCom b.body = true ↔ b.kind = 1
  p : b.kind = 5 → b.body.xs.length = L.fan
  m : b.kind = 1 ∨ b.kind = 2 → b.body.cnt ≤ L.pay
  u : ∀ ids used act, b.body = .com ids used act → act ≤ 6 ∧ used.length ≤ 1000
structure LS where
  present : List Nat
  slots : List (Option (List Nat))
  head : Nat
  place : Nat
  queue : List Nat
def placeIds : List Nat → Nat → List Nat → List Nat
  | t, _, [] => t
  | t, s, k :: ks => placeIds (if 0 < k ∧ k < t.length then t.set k s else t) (s + 1) ks
def commitT (t : List Nat) (start : Nat) (ids used : List Nat) : List Nat :=
  (List.range t.length).map fun k => if 0 < k ∧ k ∈ used then (placeIds t start ids).getD k 0 else 0
def mv (start : Nat) (xs : List Nat) (a : Nat) : Nat := if a ≠ 0 ∧ a ∈ xs then start + xs.idxOf a else a
def moveT (t : List Nat) (start : Nat) (xs : List Nat) : List Nat := t.map (mv start xs)
def slotsAfter (sl : List (Option (List Nat))) (p : List Nat) (act : Nat) : List (Option (List Nat)) :=
  if 1 ≤ act ∧ act ≤ 3 then sl.set (act - 1) (some p) else if 3 < act ∧ act ≤ 6 then sl.set (act - 4) none else sl
def take (L : Lay) (ls : LS) : Body → LS
  | .com ids used act => { ls with present := commitT ls.present (L.ad ls.head ls.place + 1) ids used, slots := slotsAfter ls.slots (commitT ls.present (L.ad ls.head ls.place + 1) ids used) act, place := ls.place + 1 + ids.length }
  | .flat xs => { ls with present := moveT ls.present (L.ad ls.head ls.place + 1) xs, slots := ls.slots.map (Option.map fun t => moveT t (L.ad ls.head ls.place + 1) xs), place := ls.place + 1 + xs.length }
def enter (ls : LS) : LS := { ls with head := ls.queue.headD 0, queue := ls.queue.tail, place := 0 }
/-- a batch stands whole -/
structure Whole (L : Lay) (rd : Rd) (g p s : Nat) (b : Blk) : Prop where
  hg : g < L.segs
  hp : p < L.blks
  at_ : rd (L.ad g p) = some b
  k : b.kind = 1 ∨ b.kind = 2
  sq : b.seq = s
  r : b.rank = 0
  fit : p + b.body.cnt < L.blks
  more : ∀ i, i < b.body.cnt → ∃ q, rd (L.ad g p + (i + 1)) = some q ∧ (q.kind = 3 ∨ q.kind = 4) ∧ q.seq = s ∧ q.rank = i + 1
def Step (L : Lay) (rd : Rd) (ls : LS) (s : Nat) (ls' : LS) : Prop :=
  (∃ b, Whole L rd ls.head ls.place s b ∧ b.kind = 1 ∧ ls' = take L ls b.body) ∨
    ((∀ b, Whole L rd ls.head ls.place s b → b.kind ≠ 1) ∧ ∃ q r b, ls.queue = q :: r ∧ Whole L rd q 0 s b ∧ ls' = take L (enter ls) b.body)
def NoStep (L : Lay) (rd : Rd) (ls : LS) (s : Nat) : Prop :=
  (∀ b, Whole L rd ls.head ls.place s b → b.kind ≠ 1) ∧ ∀ q r, ls.queue = q :: r → ∀ b, ¬ Whole L rd q 0 s b

def tabs (ls : LS) : List (List Nat) := ls.present :: ls.slots.filterMap id
def Live (ls : LS) (a : Nat) : Prop := a ≠ 0 ∧ ∃ t ∈ tabs ls, a ∈ t
theorem tabs_p {ls : LS} : ls.present ∈ tabs ls := List.mem_cons_self
theorem tabs_s {ls : LS} {t : List Nat} : some t ∈ ls.slots → t ∈ tabs ls := fun h => List.mem_cons_of_mem _ (List.mem_filterMap.mpr ⟨_, h, rfl⟩)
theorem tabs_of {ls : LS} {t : List Nat} (h : t ∈ tabs ls) : t = ls.present ∨ some t ∈ ls.slots := by
  rcases List.mem_cons.mp h with h | h
  · exact .inl h
  · obtain ⟨o, h1, h2⟩ := List.mem_filterMap.mp h
    have e : o = some t := h2
    exact .inr (e ▸ h1)

abbrev Pay := Nat × List Nat
def payAt (rd : Rd) (a : Nat) : Option Pay := match rd a with
  | some b => if b.kind = 3 ∨ b.kind = 4 then some (b.kind, b.body.xs) else none
  | none => none
abbrev Cont := Nat → Option Pay
abbrev AS := List (Option Cont)
def contT (rd : Rd) (t : List Nat) : Cont := fun k => if t.getD k 0 = 0 then none else payAt rd (t.getD k 0)
def contL (rd : Rd) (ls : LS) : AS := some (contT rd ls.present) :: ls.slots.map (Option.map (contT rd))

/-- tables, head, queue are sound -/
structure LOK (L : Lay) (rd : Rd) (ls : LS) : Prop where
  slen : ls.slots.length = 3
  tl : ∀ t ∈ tabs ls, t.length = L.lastId + 1
  z0 : ∀ t ∈ tabs ls, t.getD 0 0 = 0
  nd : (ls.head :: ls.queue).Nodup
  hr : ∀ g ∈ ls.head :: ls.queue, g < L.segs
  pl : ls.place ≤ L.blks
  lv : ∀ a, Live ls a → ∃ g p, a = L.ad g p ∧ g < L.segs ∧ 0 < p ∧ p < L.blks ∧ g ∉ ls.queue ∧ (g = ls.head → p < ls.place)
  py : ∀ a, Live ls a → (payAt rd a).isSome = true
def Fresh (L : Lay) (ls : LS) (a : Nat) : Prop := ∃ g p, a = L.ad g p ∧ p < L.blks ∧ (g ∈ ls.queue ∨ (g = ls.head ∧ ls.place ≤ p))
theorem LOK.fr {L : Lay} {rd : Rd} {ls : LS} (h : LOK L rd ls) {a : Nat} (l : Live ls a) : ¬ Fresh L ls a := by
  rintro ⟨g, p, e, hp, hf⟩
  obtain ⟨g', p', e', _, _, hp', hq, hh⟩ := h.lv a l
  obtain ⟨rfl, rfl⟩ := ad_inj hp hp' (e.symm.trans e')
  rcases hf with hf | ⟨hf, h2⟩
  · exact hq hf
  · have := hh hf; omega

/-! ### tables behind a batch -/
theorem placeIds_len : ∀ (ids : List Nat) (t : List Nat) (s : Nat), (placeIds t s ids).length = t.length
  | [], _, _ => rfl
  | k :: ks, t, s => by
    unfold placeIds
    rw [placeIds_len ks]
    split <;> simp
theorem commitT_len {t : List Nat} {s : Nat} {ids used : List Nat} : (commitT t s ids used).length = t.length := by simp [commitT]
theorem getD_lt {t : List Nat} {k : Nat} (h : k < t.length) : t.getD k 0 = t[k] := by simp [List.getD, h]
theorem getD_ge {t : List Nat} {k : Nat} (h : t.length ≤ k) : t.getD k 0 = 0 := by simp [List.getD, h]
theorem getD_set {t : List Nat} {k j v : Nat} (h : k < t.length) : (t.set k v).getD j 0 = if j = k then v else t.getD j 0 := by
  simp only [List.getD, List.getElem?_set]
  by_cases e : k = j
  · subst e; simp [h]
  · have : ¬ j = k := fun q => e q.symm
    simp [e, this]
/-- a key that no id names keeps its address -/
theorem placeIds_not : ∀ (ids : List Nat) (t : List Nat) (s k : Nat), k ∉ ids → (placeIds t s ids).getD k 0 = t.getD k 0
  | [], _, _, _, _ => rfl
  | j :: js, t, s, k, h => by
    have h1 : ¬ k = j := fun e => h (e ▸ List.mem_cons_self)
    have h2 : k ∉ js := fun e => h (List.mem_cons_of_mem _ e)
    unfold placeIds
    rw [placeIds_not js _ _ k h2]
    split
    · rename_i c
      rw [getD_set c.2, if_neg h1]
    · rfl
/-- the i-th id has the i-th address -/
theorem placeIds_at : ∀ (ids : List Nat) (t : List Nat) (s i k : Nat), ids.Nodup → ids[i]? = some k → 0 < k → k < t.length → (placeIds t s ids).getD k 0 = s + i
  | [], _, _, _, _, _, h, _, _ => by simp at h
  | j :: js, t, s, 0, k, nd, h, h0, hk => by
    have e : j = k := by simpa using h
    subst e
    unfold placeIds
    rw [placeIds_not js _ _ j (List.nodup_cons.mp nd).1, if_pos ⟨h0, hk⟩, getD_set hk, if_pos rfl]
    rfl
  | j :: js, t, s, i + 1, k, nd, h, h0, hk => by
    unfold placeIds
    rw [placeIds_at js _ (s + 1) i k (List.nodup_cons.mp nd).2 (by simpa using h) h0 (by split <;> simpa using hk)]
    omega
/-- every address is an old one or a new one -/
theorem placeIds_mem : ∀ (ids : List Nat) (t : List Nat) (s k : Nat), (placeIds t s ids).getD k 0 = t.getD k 0 ∨ ∃ i, i < ids.length ∧ (placeIds t s ids).getD k 0 = s + i
  | [], _, _, _ => .inl rfl
  | j :: js, t, s, k => by
    unfold placeIds
    rcases placeIds_mem js (if 0 < j ∧ j < t.length then t.set j s else t) (s + 1) k with h | ⟨i, h1, h2⟩
    · rw [h]
      split
      · rename_i c
        rw [getD_set c.2]
        split
        · exact .inr ⟨0, by simp, by omega⟩
        · exact .inl rfl
      · exact .inl rfl
    · exact .inr ⟨i + 1, by simpa using h1, by omega⟩
theorem commitT_at {t : List Nat} {s k : Nat} {ids used : List Nat} : (commitT t s ids used).getD k 0 = if k < t.length ∧ 0 < k ∧ k ∈ used then (placeIds t s ids).getD k 0 else 0 := by
  by_cases h : k < t.length
  · rw [getD_lt (by rw [commitT_len]; exact h)]
    simp [commitT, h]
  · rw [getD_ge (by rw [commitT_len]; omega), if_neg (fun q => h q.1)]
theorem mem_getD {t : List Nat} {a : Nat} (h : a ∈ t) : ∃ k, k < t.length ∧ t.getD k 0 = a := by
  obtain ⟨k, hk, e⟩ := List.mem_iff_getElem.mp h
  exact ⟨k, hk, by rw [getD_lt hk, e]⟩
theorem getD_mem {t : List Nat} {k : Nat} (h : t.getD k 0 ≠ 0) : t.getD k 0 ∈ t := by
  by_cases hk : k < t.length
  · rw [getD_lt hk]; exact List.getElem_mem hk
  · exact absurd (getD_ge (by omega)) h
theorem commitT_mem {t : List Nat} {s a : Nat} {ids used : List Nat} (h : a ∈ commitT t s ids used) (h0 : a ≠ 0) : a ∈ t ∨ ∃ i, i < ids.length ∧ a = s + i := by
  obtain ⟨k, hk, e⟩ := mem_getD h
  rw [commitT_at] at e
  split at e
  · rcases placeIds_mem ids t s k with q | ⟨i, q1, q2⟩
    · rw [q] at e
      exact .inl (e ▸ getD_mem (by rw [e]; exact h0))
    · exact .inr ⟨i, q1, by omega⟩
  · exact absurd e.symm h0
theorem moveT_len {t : List Nat} {s : Nat} {xs : List Nat} : (moveT t s xs).length = t.length := by simp [moveT]
theorem mv_zero {s : Nat} {xs : List Nat} : mv s xs 0 = 0 := by simp [mv]
theorem moveT_at {t : List Nat} {s k : Nat} {xs : List Nat} : (moveT t s xs).getD k 0 = mv s xs (t.getD k 0) := by
  by_cases h : k < t.length
  · rw [getD_lt (by rw [moveT_len]; exact h), getD_lt h]
    simp [moveT]
  · rw [getD_ge (by rw [moveT_len]; omega), getD_ge (by omega), mv_zero]
theorem mv_or {s : Nat} {xs : List Nat} {a : Nat} : mv s xs a = a ∨ (a ∈ xs ∧ mv s xs a = s + xs.idxOf a ∧ xs.idxOf a < xs.length) := by
  unfold mv
  split
  · rename_i h
    exact .inr ⟨h.2, rfl, List.idxOf_lt_length_of_mem h.2⟩
  · exact .inl rfl
theorem slotsAfter_len {sl : List (Option (List Nat))} {p : List Nat} {act : Nat} : (slotsAfter sl p act).length = sl.length := by
  unfold slotsAfter
  split
  · simp
  · split <;> simp
theorem slotsAfter_mem {sl : List (Option (List Nat))} {p t : List Nat} {act : Nat} (h : some t ∈ slotsAfter sl p act) : t = p ∨ some t ∈ sl := by
  unfold slotsAfter at h
  split at h
  · rcases List.mem_or_eq_of_mem_set h with q | q
    · exact .inr q
    · exact .inl (Option.some.inj q)
  · split at h
    · rcases List.mem_or_eq_of_mem_set h with q | q
      · exact .inr q
      · cases q
    · exact .inr h
/-- live behind a batch: what was live, or the batch's own blocks -/
theorem take_live {L : Lay} {ls : LS} {b : Body} {a : Nat} (h : Live (take L ls b) a) : Live ls a ∨ ∃ i, i < b.cnt ∧ a = L.ad ls.head ls.place + (i + 1) := by
  obtain ⟨h0, t, ht, hm⟩ := h
  cases b with
  | com ids used act =>
    have key : a ∈ commitT ls.present (L.ad ls.head ls.place + 1) ids used → Live ls a ∨ ∃ i, i < (Body.com ids used act).cnt ∧ a = L.ad ls.head ls.place + (i + 1) := fun hm => by
      rcases commitT_mem hm h0 with q | ⟨i, q1, q2⟩
      · exact .inl ⟨h0, _, tabs_p, q⟩
      · exact .inr ⟨i, q1, by omega⟩
    rcases tabs_of ht with rfl | ht
    · exact key hm
    · rcases slotsAfter_mem (show some t ∈ slotsAfter ls.slots (commitT ls.present (L.ad ls.head ls.place + 1) ids used) act from ht) with rfl | q
      · exact key hm
      · exact .inl ⟨h0, t, tabs_s q, hm⟩
  | flat xs =>
    have key : ∀ u, u ∈ tabs ls → a ∈ moveT u (L.ad ls.head ls.place + 1) xs → Live ls a ∨ ∃ i, i < (Body.flat xs).cnt ∧ a = L.ad ls.head ls.place + (i + 1) := fun u hu hm => by
      obtain ⟨c, hc, e⟩ := List.mem_map.mp hm
      rcases mv_or (s := L.ad ls.head ls.place + 1) (xs := xs) (a := c) with q | ⟨q1, q2, q3⟩
      · rw [q] at e; subst e
        exact .inl ⟨h0, u, hu, hc⟩
      · exact .inr ⟨xs.idxOf c, q3, by omega⟩
    rcases tabs_of ht with rfl | ht
    · exact key _ tabs_p hm
    · obtain ⟨o, ho, e⟩ := List.mem_map.mp (show some t ∈ ls.slots.map _ from ht)
      cases o with
      | none => cases e
      | some u =>
        have e2 : moveT u (L.ad ls.head ls.place + 1) xs = t := Option.some.inj e
        subst e2
        exact key u (tabs_s ho) hm
theorem take_head {L : Lay} {ls : LS} {b : Body} : (take L ls b).head = ls.head := by cases b <;> rfl
theorem take_queue {L : Lay} {ls : LS} {b : Body} : (take L ls b).queue = ls.queue := by cases b <;> rfl
theorem take_place {L : Lay} {ls : LS} {b : Body} : (take L ls b).place = ls.place + 1 + b.cnt := by cases b <;> rfl
theorem take_slen {L : Lay} {ls : LS} {b : Body} : (take L ls b).slots.length = ls.slots.length := by
  cases b with
  | com ids used act => exact slotsAfter_len
  | flat xs => exact List.length_map ..
theorem take_tabs {L : Lay} {ls : LS} {b : Body} {n : Nat} (h : ∀ t ∈ tabs ls, t.length = n ∧ t.getD 0 0 = 0) : ∀ t ∈ tabs (take L ls b), t.length = n ∧ t.getD 0 0 = 0 := by
  intro t ht
  cases b with
  | com ids used act =>
    have key : (commitT ls.present (L.ad ls.head ls.place + 1) ids used).length = n ∧ (commitT ls.present (L.ad ls.head ls.place + 1) ids used).getD 0 0 = 0 :=
      ⟨by rw [commitT_len]; exact (h _ tabs_p).1, by rw [commitT_at, if_neg (fun q => absurd q.2.1 (Nat.lt_irrefl 0))]⟩
    rcases tabs_of ht with rfl | ht
    · exact key
    · rcases slotsAfter_mem (show some t ∈ slotsAfter ls.slots (commitT ls.present (L.ad ls.head ls.place + 1) ids used) act from ht) with rfl | q
      · exact key
      · exact h _ (tabs_s q)
  | flat xs =>
    have key : ∀ u ∈ tabs ls, (moveT u (L.ad ls.head ls.place + 1) xs).length = n ∧ (moveT u (L.ad ls.head ls.place + 1) xs).getD 0 0 = 0 := fun u hu =>
      ⟨by rw [moveT_len]; exact (h u hu).1, by rw [moveT_at, (h u hu).2, mv_zero]⟩
    rcases tabs_of ht with rfl | ht
    · exact key _ tabs_p
    · obtain ⟨o, ho, e⟩ := List.mem_map.mp (show some t ∈ ls.slots.map _ from ht)
      cases o with
      | none => cases e
      | some u =>
        have e2 : moveT u (L.ad ls.head ls.place + 1) xs = t := Option.some.inj e
        subst e2
        exact key u (tabs_s ho)
end K30

namespace K30
/-! ## M2: soundness and contents behind a batch -/
theorem LOK.enter {L : Lay} {rd : Rd} {ls : LS} {q : Nat} {r : List Nat} (h : LOK L rd ls) (e : ls.queue = q :: r) : LOK L rd (enter ls) ∧ (enter ls).head = q ∧ (enter ls).queue = r ∧ (enter ls).place = 0 := by
  have eh : (K30.enter ls).head = q := by simp [K30.enter, e]
  have eq : (K30.enter ls).queue = r := by simp [K30.enter, e]
  refine ⟨⟨h.slen, h.tl, h.z0, ?_, ?_, Nat.zero_le _, ?_, h.py⟩, eh, eq, rfl⟩
  · rw [eh, eq]
    have := h.nd
    rw [e] at this
    exact (List.nodup_cons.mp this).2
  · rw [eh, eq]
    intro g hg
    exact h.hr g (by rw [e]; exact List.mem_cons_of_mem _ hg)
  · intro a l
    obtain ⟨g, p, h1, h2, h3, h4, h5, h6⟩ := h.lv a l
    rw [e] at h5
    refine ⟨g, p, h1, h2, h3, h4, ?_, ?_⟩
    · rw [eq]; exact fun z => h5 (List.mem_cons_of_mem _ z)
    · rw [eh]; intro z; subst z; exact absurd List.mem_cons_self h5
theorem enter_fresh {L : Lay} {ls : LS} {q : Nat} {r : List Nat} {a : Nat} (e : ls.queue = q :: r) (h : Fresh L (K30.enter ls) a) : Fresh L ls a := by
  obtain ⟨g, p, h1, h2, h3⟩ := h
  have eh : (K30.enter ls).head = q := by simp [K30.enter, e]
  have eq : (K30.enter ls).queue = r := by simp [K30.enter, e]
  rw [eh, eq] at h3
  refine ⟨g, p, h1, h2, .inl ?_⟩
  rw [e]
  rcases h3 with h3 | ⟨h3, _⟩
  · exact List.mem_cons_of_mem _ h3
  · rw [h3]; exact List.mem_cons_self
theorem take_fresh {L : Lay} {ls : LS} {b : Body} {a : Nat} (h : Fresh L (K30.take L ls b) a) : Fresh L ls a := by
  obtain ⟨g, p, h1, h2, h3⟩ := h
  rw [take_queue, take_head, take_place] at h3
  refine ⟨g, p, h1, h2, h3.imp id fun ⟨h4, h5⟩ => ⟨h4, by omega⟩⟩
/-- the batch's own addresses are no longer fresh -/
theorem take_unfresh {L : Lay} {ls : LS} {b : Body} {i : Nat} (nd : (ls.head :: ls.queue).Nodup) (fit : ls.place + b.cnt < L.blks) (hi : i ≤ b.cnt) : ¬ Fresh L (K30.take L ls b) (L.ad ls.head ls.place + i) := by
  rintro ⟨g, p, h1, h2, h3⟩
  rw [take_queue, take_head, take_place] at h3
  rw [ad_add] at h1
  obtain ⟨rfl, rfl⟩ := ad_inj (by omega) h2 h1
  rcases h3 with h3 | ⟨_, h3⟩
  · exact (List.nodup_cons.mp nd).1 h3
  · omega
theorem fresh_own {L : Lay} {ls : LS} {n i : Nat} (fit : ls.place + n < L.blks) (hi : i ≤ n) : Fresh L ls (L.ad ls.head ls.place + i) :=
  ⟨ls.head, ls.place + i, ad_add, by omega, .inr ⟨rfl, by omega⟩⟩
theorem LOK.take {L : Lay} {rd rd' : Rd} {ls : LS} {b : Body} (h : LOK L rd ls) (fit : ls.place + b.cnt < L.blks) (hh : ls.head < L.segs)
    (old : ∀ a, Live ls a → payAt rd' a = payAt rd a) (new : ∀ i, i < b.cnt → (payAt rd' (L.ad ls.head ls.place + (i + 1))).isSome = true) : LOK L rd' (K30.take L ls b) := by
  have tb := take_tabs (L := L) (b := b) (n := L.lastId + 1) fun t ht => ⟨h.tl t ht, h.z0 t ht⟩
  refine ⟨by rw [take_slen]; exact h.slen, fun t ht => (tb t ht).1, fun t ht => (tb t ht).2, by rw [take_head, take_queue]; exact h.nd, by rw [take_head, take_queue]; exact h.hr, by rw [take_place]; omega, ?_, ?_⟩
  · intro a l
    rw [take_head, take_queue, take_place]
    rcases take_live l with l | ⟨i, hi, e⟩
    · obtain ⟨g, p, h1, h2, h3, h4, h5, h6⟩ := h.lv a l
      exact ⟨g, p, h1, h2, h3, h4, h5, fun z => by have := h6 z; omega⟩
    · rw [ad_add] at e
      exact ⟨ls.head, ls.place + (i + 1), e, hh, by omega, by omega, (List.nodup_cons.mp h.nd).1, fun _ => by omega⟩
  · intro a l
    rcases take_live l with l | ⟨i, hi, e⟩
    · rw [old a l]; exact h.py a l
    · rw [e]; exact new i hi
theorem LOK.mono {L : Lay} {rd rd' : Rd} {ls : LS} (h : LOK L rd ls) (old : ∀ a, Live ls a → payAt rd' a = payAt rd a) : LOK L rd' ls :=
  ⟨h.slen, h.tl, h.z0, h.nd, h.hr, h.pl, h.lv, fun a l => by rw [old a l]; exact h.py a l⟩
theorem contT_congr {rd rd' : Rd} {t : List Nat} (old : ∀ a, a ≠ 0 → a ∈ t → payAt rd' a = payAt rd a) : contT rd' t = contT rd t := by
  funext k
  unfold contT
  split
  · rfl
  · rename_i h
    exact old _ h (getD_mem h)
theorem contL_congr {rd rd' : Rd} {ls : LS} (old : ∀ a, Live ls a → payAt rd' a = payAt rd a) : contL rd' ls = contL rd ls := by
  unfold contL
  rw [contT_congr fun a h0 hm => old a ⟨h0, _, tabs_p, hm⟩]
  congr 1
  refine List.map_congr_left fun o ho => ?_
  cases o with
  | none => rfl
  | some t => exact congrArg some (contT_congr fun a h0 hm => old a ⟨h0, _, tabs_s ho, hm⟩)
theorem contL_move {L : Lay} {rd rd' : Rd} {ls : LS} {xs : List Nat} (old : ∀ a, Live ls a → payAt rd' a = payAt rd a)
    (new : ∀ i (h : i < xs.length), payAt rd' (L.ad ls.head ls.place + (i + 1)) = payAt rd xs[i]) : contL rd' (K30.take L ls (.flat xs)) = contL rd ls := by
  have key : ∀ t ∈ tabs ls, contT rd' (moveT t (L.ad ls.head ls.place + 1) xs) = contT rd t := fun t ht => by
    funext k
    unfold contT
    rw [moveT_at]
    by_cases h0 : t.getD k 0 = 0
    · rw [h0, mv_zero]
      rfl
    · rcases mv_or (s := L.ad ls.head ls.place + 1) (xs := xs) (a := t.getD k 0) with q | ⟨q1, q2, q3⟩
      · rw [q, if_neg h0, if_neg h0]
        exact old _ ⟨h0, t, ht, getD_mem h0⟩
      · rw [q2, if_neg (by omega), if_neg h0]
        have := new _ q3
        rw [List.getElem_idxOf] at this
        rw [← this]
        congr 1
        omega
  show some (contT rd' (moveT ls.present _ xs)) :: (ls.slots.map (Option.map fun t => moveT t _ xs)).map (Option.map (contT rd')) = _
  unfold contL
  rw [key _ tabs_p, List.map_map]
  congr 1
  refine List.map_congr_left fun o ho => ?_
  cases o with
  | none => rfl
  | some t => exact congrArg some (key t (tabs_s ho))
/-! ### the abstract commit -/
def cur : AS → Cont
  | some c :: _ => c
  | _ => fun _ => none
def newC (A : AS) (ids : List Nat) (pays : List Pay) (used : List Nat) : Cont := fun k => if k ∈ used then (if k ∈ ids then pays[ids.idxOf k]? else cur A k) else none
def afterA (A : AS) (ids : List Nat) (pays : List Pay) (used : List Nat) (act : Nat) : AS :=
  if 1 ≤ act ∧ act ≤ 3 then (some (newC A ids pays used) :: A.tail).set act (some (newC A ids pays used)) else if 4 ≤ act then (some (newC A ids pays used) :: A.tail).set (act - 3) none else some (newC A ids pays used) :: A.tail
theorem contL_com {L : Lay} {rd rd' : Rd} {ls : LS} {ids used : List Nat} {pays : List Pay} {act : Nat} (old : ∀ a, Live ls a → payAt rd' a = payAt rd a)
    (hl : pays.length = ids.length) (new : ∀ i (h : i < pays.length), payAt rd' (L.ad ls.head ls.place + (i + 1)) = some pays[i])
    (nd : ids.Nodup) (hi : ∀ k ∈ ids, 0 < k) (hu : ∀ k ∈ used, 0 < k ∧ k < ls.present.length) (ha : act ≤ 6) :
    contL rd' (K30.take L ls (.com ids used act)) = afterA (contL rd ls) ids pays used act := by
  have key : contT rd' (commitT ls.present (L.ad ls.head ls.place + 1) ids used) = newC (contL rd ls) ids pays used := by
    funext k
    unfold contT newC
    by_cases hk : k ∈ used
    · obtain ⟨h1, h2⟩ := hu k hk
      have ec : (commitT ls.present (L.ad ls.head ls.place + 1) ids used).getD k 0 = (placeIds ls.present (L.ad ls.head ls.place + 1) ids).getD k 0 := by
        rw [commitT_at, if_pos ⟨h2, h1, hk⟩]
      rw [ec, if_pos hk]
      by_cases hm : k ∈ ids
      · have hlt : ids.idxOf k < ids.length := List.idxOf_lt_length_of_mem hm
        have e := placeIds_at ids ls.present (L.ad ls.head ls.place + 1) (ids.idxOf k) k nd (by rw [List.getElem?_eq_getElem hlt, List.getElem_idxOf]) h1 h2
        rw [e, if_neg (by omega), if_pos hm]
        have hp : ids.idxOf k < pays.length := by omega
        rw [List.getElem?_eq_getElem hp, ← new _ hp]
        congr 1
        omega
      · rw [placeIds_not _ _ _ _ hm, if_neg hm]
        show _ = contT rd ls.present k
        unfold contT
        split
        · rfl
        · rename_i h0
          exact old _ ⟨h0, _, tabs_p, getD_mem h0⟩
    · have ec : (commitT ls.present (L.ad ls.head ls.place + 1) ids used).getD k 0 = 0 := by
        rw [commitT_at, if_neg (fun q => hk q.2.2)]
      rw [ec, if_pos rfl, if_neg hk]
  have hs : ls.slots.map (Option.map (contT rd')) = ls.slots.map (Option.map (contT rd)) := by
    refine List.map_congr_left fun o ho => ?_
    cases o with
    | none => rfl
    | some t => exact congrArg some (contT_congr fun a h0 hm => old a ⟨h0, _, tabs_s ho, hm⟩)
  show some (contT rd' (commitT ls.present _ ids used)) :: (slotsAfter ls.slots _ act).map (Option.map (contT rd')) = _
  unfold slotsAfter afterA
  rw [key]
  have et : (contL rd ls).tail = ls.slots.map (Option.map (contT rd)) := rfl
  rw [et, ← hs]
  by_cases h1 : 1 ≤ act ∧ act ≤ 3
  · rw [if_pos h1, if_pos h1, List.map_set]
    obtain ⟨m, rfl⟩ : ∃ m, act = m + 1 := ⟨act - 1, by omega⟩
    rw [List.set_cons_succ, Nat.add_sub_cancel, Option.map_some, key]
  · rw [if_neg h1, if_neg h1]
    by_cases h2 : 4 ≤ act
    · rw [if_pos (by omega), if_pos h2, List.map_set]
      obtain ⟨m, rfl⟩ : ∃ m, act = m + 4 := ⟨act - 4, by omega⟩
      rw [show m + 4 - 3 = m + 1 by omega, List.set_cons_succ, Nat.add_sub_cancel]
      rfl
    · rw [if_neg (by omega), if_neg h2]
end K30

namespace K30
/-! ## M3: histories, and what a crash leaves of them -/
/-- c is d, but for some blocks of sequence above t, in whose place c has none or one of sequence at most s0 -/
def Older (L : Lay) (c d : Rd) (t s0 : Nat) : Prop := ∀ a, 2 * L.rb ≤ a → c a = d a ∨ ((∃ b, d a = some b ∧ t < b.seq) ∧ ∀ b, c a = some b → b.seq ≤ s0)
section
variable {L : Lay} {c d : Rd} {t s0 s g p a : Nat} {b : Blk}
theorem Older.up (o : Older L c d t s0) (ha : 2 * L.rb ≤ a) (h : c a = some b) (hs : s0 < b.seq) : c a = d a := by
  rcases o a ha with e | ⟨_, e⟩
  · exact e
  · have := e b h; omega
theorem Older.dn (o : Older L c d t s0) (ha : 2 * L.rb ≤ a) (h : d a = some b) (hs : b.seq ≤ t) : c a = d a := by
  rcases o a ha with e | ⟨⟨b', e, e2⟩, _⟩
  · exact e
  · rw [h] at e; cases e; omega
theorem ad_ge2 {i : Nat} : 2 * L.rb ≤ L.ad g p + i := by unfold Lay.ad; omega
theorem whole_up (o : Older L c d t s0) (hs : s0 < s) (w : Whole L c g p s b) : Whole L d g p s b ∧ ∀ i, i ≤ b.body.cnt → c (L.ad g p + i) = d (L.ad g p + i) := by
  have h0 : c (L.ad g p) = d (L.ad g p) := o.up ad_ge w.at_ (by rw [w.sq]; exact hs)
  have hi : ∀ i, i < b.body.cnt → c (L.ad g p + (i + 1)) = d (L.ad g p + (i + 1)) := fun i hi => by
    obtain ⟨q, e, _, e2, _⟩ := w.more i hi
    exact o.up ad_ge2 e (by rw [e2]; exact hs)
  refine ⟨⟨w.hg, w.hp, h0 ▸ w.at_, w.k, w.sq, w.r, w.fit, fun i h => ?_⟩, fun i h => ?_⟩
  · rw [← hi i h]; exact w.more i h
  · cases i with
    | zero => exact h0
    | succ i => exact hi i (by omega)
theorem whole_dn (o : Older L c d t s0) (hs : s ≤ t) (w : Whole L d g p s b) : Whole L c g p s b ∧ ∀ i, i ≤ b.body.cnt → c (L.ad g p + i) = d (L.ad g p + i) := by
  have h0 : c (L.ad g p) = d (L.ad g p) := o.dn ad_ge w.at_ (by rw [w.sq]; exact hs)
  have hi : ∀ i, i < b.body.cnt → c (L.ad g p + (i + 1)) = d (L.ad g p + (i + 1)) := fun i hi => by
    obtain ⟨q, e, _, e2, _⟩ := w.more i hi
    exact o.dn ad_ge2 e (by rw [e2]; exact hs)
  refine ⟨⟨w.hg, w.hp, h0 ▸ w.at_, w.k, w.sq, w.r, w.fit, fun i h => ?_⟩, fun i h => ?_⟩
  · rw [hi i h]; exact w.more i h
  · cases i with
    | zero => exact h0
    | succ i => exact hi i (by omega)
theorem step_up {ls ls' : LS} (o : Older L c d t s0) (h0 : s0 < s) (h1 : s ≤ t) (h : Step L c ls s ls') : Step L d ls s ls' := by
  rcases h with ⟨b, w, k, e⟩ | ⟨n, q, r, b, e, w, e2⟩
  · exact .inl ⟨b, (whole_up o h0 w).1, k, e⟩
  · exact .inr ⟨fun b' w' => n b' (whole_dn o h1 w').1, q, r, b, e, (whole_up o h0 w).1, e2⟩
end

structure Hist (L : Lay) (rd : Rd) (s0 m : Nat) (h : Nat → LS) (A : Nat → AS) : Prop where
  st : ∀ n, n < m → Step L rd (h n) (s0 + n + 1) (h (n + 1))
  ok : ∀ n, n ≤ m → LOK L rd (h n)
  ct : ∀ n, n ≤ m → contL rd (h n) = A n
  sq : ∀ a b, 2 * L.rb ≤ a → rd a = some b → b.seq ≤ s0 + m
  fr : ∀ a b, Fresh L (h m) a → rd a = some b → b.seq ≤ s0
  un : ∀ a a' b b', 2 * L.rb ≤ a → 2 * L.rb ≤ a' → rd a = some b → rd a' = some b' → b.rank = 0 → b'.rank = 0 → b.seq = b'.seq → s0 < b.seq → a = a'
  lf : ∀ n, n ≤ m → ∀ a, Live (h n) a → ¬ Fresh L (h m) a
  kl : ∀ a b, Live (h 0) a → rd a = some b → b.seq ≤ s0

theorem pay_some {rd : Rd} {a : Nat} (h : (payAt rd a).isSome = true) : ∃ b, rd a = some b ∧ (b.kind = 3 ∨ b.kind = 4) := by
  unfold payAt at h
  cases e : rd a with
  | none => rw [e] at h; cases h
  | some b =>
    rw [e] at h
    refine ⟨b, rfl, ?_⟩
    by_cases k : b.kind = 3 ∨ b.kind = 4
    · exact k
    · simp [k] at h
theorem live_ge {L : Lay} {rd : Rd} {ls : LS} {a : Nat} (h : LOK L rd ls) (l : Live ls a) : 2 * L.rb ≤ a := by
  obtain ⟨g, p, e, _⟩ := h.lv a l
  rw [e]; exact ad_ge
section
variable {L : Lay} {c d : Rd} {t s0 m : Nat} {h : Nat → LS} {A : Nat → AS}
/-- the run of a crashed device: some first steps, all up to t among them -/
theorem Hist.run_aux (H : Hist L d s0 m h A) (o : Older L c d t s0) (ht : s0 ≤ t) : ∀ k n, n + k = m → (∀ i, i < n → Step L c (h i) (s0 + i + 1) (h (i + 1))) → (∀ a, Live (h n) a → c a = d a) →
    ∃ n, n ≤ m ∧ (t ≤ s0 + m → t ≤ s0 + n) ∧ (∀ i, i < n → Step L c (h i) (s0 + i + 1) (h (i + 1))) ∧ NoStep L c (h n) (s0 + n + 1) ∧ ∀ a, Live (h n) a → c a = d a := by
  intro k
  induction k with
  | zero =>
    intro n e hs ha
    have e' : n = m := by omega
    subst e'
    refine ⟨n, Nat.le_refl _, fun z => z, hs, ⟨fun b w => ?_, fun q r e b w => ?_⟩, ha⟩
    · have w' := (whole_up o (by omega) w).1
      have := H.sq _ _ ad_ge w'.at_
      have := w'.sq
      omega
    · have w' := (whole_up o (by omega) w).1
      have := H.sq _ _ ad_ge w'.at_
      have := w'.sq
      omega
  | succ k ih =>
    intro n e hs ha
    have hn : n < m := by omega
    have sd := H.st n hn
    by_cases hno : NoStep L c (h n) (s0 + n + 1)
    · refine ⟨n, by omega, fun _ => ?_, hs, hno, ha⟩
      by_cases hle : s0 + n + 1 ≤ t
      · rcases sd with ⟨b, w, k, _⟩ | ⟨_, q, r, b, e, w, _⟩
        · exact absurd k (hno.1 b (whole_dn o hle w).1)
        · exact absurd (whole_dn o hle w).1 (hno.2 q r e b)
      · omega
    · have hstep : Step L c (h n) (s0 + n + 1) (h (n + 1)) ∧ ∀ a, Live (h (n + 1)) a → c a = d a := by
        by_cases h1 : ∃ b, Whole L c (h n).head (h n).place (s0 + n + 1) b ∧ b.kind = 1
        · obtain ⟨b, w, kb⟩ := h1
          obtain ⟨w', same⟩ := whole_up o (by omega) w
          rcases sd with ⟨b', w2, k2, e2⟩ | ⟨no, _⟩
          · have eb : b' = b := by
              have := w2.at_
              rw [w'.at_] at this
              exact (Option.some.inj this).symm
            subst eb
            refine ⟨.inl ⟨b', w, kb, e2⟩, fun a l => ?_⟩
            rw [e2] at l
            rcases take_live l with l | ⟨i, hi, e⟩
            · exact ha a l
            · rw [e]; exact same _ (by omega)
          · exact absurd kb (no b w')
        · have h2 : ∃ q r b, (h n).queue = q :: r ∧ Whole L c q 0 (s0 + n + 1) b := by
            refine Classical.byContradiction fun z => hno ⟨fun b w k => h1 ⟨b, w, k⟩, fun q r e b w => z ⟨q, r, b, e, w⟩⟩
          obtain ⟨q, r, b, e, w⟩ := h2
          obtain ⟨w', same⟩ := whole_up o (by omega) w
          rcases sd with ⟨b', w2, k2, e2⟩ | ⟨no, q', r', b', e', w2, e2⟩
          · have ea := H.un _ _ _ _ ad_ge ad_ge w2.at_ w'.at_ w2.r w'.r (by rw [w2.sq, w'.sq]) (by rw [w2.sq]; omega)
            obtain ⟨eh, _⟩ := ad_inj w2.hp w'.hp ea
            have nd := (H.ok n (by omega)).nd
            rw [e, eh] at nd
            exact absurd List.mem_cons_self (List.nodup_cons.mp nd).1
          · rw [e] at e'
            injection e' with e3 e4
            subst e3
            have eb : b' = b := by
              have := w2.at_
              rw [w'.at_] at this
              exact (Option.some.inj this).symm
            subst eb
            refine ⟨.inr ⟨fun b w k => h1 ⟨b, w, k⟩, q, r, b', e, w, e2⟩, fun a l => ?_⟩
            rw [e2] at l
            rcases take_live l with l | ⟨i, hi, e5⟩
            · exact ha a l
            · obtain ⟨_, eh, _, ep⟩ := (H.ok n (by omega)).enter e
              rw [e5, eh, ep]; exact same _ (by omega)
      exact ih (n + 1) (by omega) (fun i hi => by
        by_cases z : i = n
        · subst z; exact hstep.1
        · exact hs i (by omega)) hstep.2
theorem Hist.run (H : Hist L d s0 m h A) (o : Older L c d t s0) (ht : s0 ≤ t) (ht2 : t ≤ s0 + m) :
    ∃ n, n ≤ m ∧ t ≤ s0 + n ∧ (∀ i, i < n → Step L c (h i) (s0 + i + 1) (h (i + 1))) ∧ NoStep L c (h n) (s0 + n + 1) ∧ LOK L c (h n) ∧ contL c (h n) = A n := by
  obtain ⟨n, h1, h2, h3, h4, h5⟩ := H.run_aux o ht m 0 (by omega) (fun i hi => absurd hi (Nat.not_lt_zero i)) fun a l => by
    obtain ⟨b, e, _⟩ := pay_some ((H.ok 0 (by omega)).py a l)
    exact o.dn (live_ge (H.ok 0 (by omega)) l) e (Nat.le_trans (H.kl a b l e) ht)
  have same : ∀ a, Live (h n) a → payAt c a = payAt d a := fun a l => by unfold payAt; rw [h5 a l]
  exact ⟨n, h1, h2 ht2, h3, h4, (H.ok n h1).mono same, by rw [contL_congr same]; exact H.ct n h1⟩

def upto {α : Type} (m : Nat) (h : Nat → α) (x : α) : Nat → α := fun n => if n ≤ m then h n else x
theorem upto_le {α : Type} {m n : Nat} {h : Nat → α} {x : α} (hn : n ≤ m) : upto m h x n = h n := if_pos hn
theorem upto_at {α : Type} {m : Nat} {h : Nat → α} {x : α} : upto m h x (m + 1) = x := if_neg (by omega)
/-- a batch is laid behind a history -/
theorem Hist.ext {rd' : Rd} {ls1 : LS} {b : Blk} {A' : AS} (H : Hist L d s0 m h A)
    (hb : (ls1 = h m ∧ b.kind = 1) ∨ ∃ q r, (h m).queue = q :: r ∧ ls1 = K30.enter (h m))
    (fit : ls1.place + b.body.cnt < L.blks) (bk : b.kind = 1 ∨ b.kind = 2) (bs : b.seq = s0 + m + 1) (br : b.rank = 0)
    (n0 : rd' (L.ad ls1.head ls1.place) = some b)
    (ni : ∀ i, i < b.body.cnt → ∃ q, rd' (L.ad ls1.head ls1.place + (i + 1)) = some q ∧ (q.kind = 3 ∨ q.kind = 4) ∧ q.seq = s0 + m + 1 ∧ q.rank = i + 1)
    (same : ∀ a, (∀ i, i ≤ b.body.cnt → a ≠ L.ad ls1.head ls1.place + i) → rd' a = d a)
    (hA : (∀ a, Live ls1 a → payAt rd' a = payAt d a) → contL rd' (K30.take L ls1 b.body) = A') :
    Hist L rd' s0 (m + 1) (upto m h (K30.take L ls1 b.body)) (upto m A A') := by
  have okm := H.ok m (Nat.le_refl m)
  have ok1 : LOK L d ls1 ∧ (∀ a, Fresh L ls1 a → Fresh L (h m) a) ∧ (∀ a, Live ls1 a ↔ Live (h m) a) := by
    rcases hb with ⟨e, _⟩ | ⟨q, r, e, e2⟩
    · subst e; exact ⟨okm, fun _ z => z, fun _ => Iff.rfl⟩
    · subst e2; exact ⟨(okm.enter e).1, fun a z => enter_fresh e z, fun _ => Iff.rfl⟩
  obtain ⟨ok1, fr1, lv1⟩ := ok1
  -- a new address: fresh; what stands there is of the new sequence
  have newF : ∀ i, i ≤ b.body.cnt → Fresh L (h m) (L.ad ls1.head ls1.place + i) := fun i hi => fr1 _ (fresh_own fit hi)
  have newS : ∀ i, i ≤ b.body.cnt → ∃ q, rd' (L.ad ls1.head ls1.place + i) = some q ∧ q.seq = s0 + m + 1 ∧ q.rank = i := fun i hi => by
    cases i with
    | zero => exact ⟨b, n0, bs, br⟩
    | succ i => obtain ⟨q, e, _, e2, e3⟩ := ni i (by omega); exact ⟨q, e, e2, e3⟩
  have split : ∀ a, (∃ i, i ≤ b.body.cnt ∧ a = L.ad ls1.head ls1.place + i) ∨ rd' a = d a := fun a => by
    by_cases z : ∃ i, i ≤ b.body.cnt ∧ a = L.ad ls1.head ls1.place + i
    · exact .inl z
    · exact .inr (same a fun i hi e => z ⟨i, hi, e⟩)
  have old : ∀ n, n ≤ m → ∀ a, Live (h n) a → rd' a = d a := fun n hn a l => by
    rcases split a with ⟨i, hi, e⟩ | e
    · exact absurd (e ▸ newF i hi) (H.lf n hn a l)
    · exact e
  have oldP : ∀ n, n ≤ m → ∀ a, Live (h n) a → payAt rd' a = payAt d a := fun n hn a l => by unfold payAt; rw [old n hn a l]
  have old1 : ∀ a, Live ls1 a → payAt rd' a = payAt d a := fun a l => oldP m (Nat.le_refl m) a ((lv1 a).mp l)
  have olderX : Older L d rd' (s0 + m) s0 := fun a ha => by
    rcases split a with ⟨i, hi, e⟩ | e
    · obtain ⟨q, e1, e2, _⟩ := newS i hi
      rw [← e] at e1
      exact .inr ⟨⟨q, e1, by omega⟩, fun b' hb' => H.fr a b' (e ▸ newF i hi) hb'⟩
    · exact .inl e.symm
  have okN : LOK L rd' (K30.take L ls1 b.body) := ok1.take fit (ok1.hr _ List.mem_cons_self) old1 fun i hi => by
    obtain ⟨q, e, k, _⟩ := ni i hi
    unfold payAt
    rw [e]
    simp [k]
  have wN : Whole L rd' ls1.head ls1.place (s0 + m + 1) b := ⟨ok1.hr _ List.mem_cons_self, by omega, n0, bk, bs, br, fit, ni⟩
  have frN : ∀ a, Fresh L (K30.take L ls1 b.body) a → Fresh L (h m) a ∧ ∀ i, i ≤ b.body.cnt → a ≠ L.ad ls1.head ls1.place + i := fun a z =>
    ⟨fr1 a (take_fresh z), fun i hi e => take_unfresh ok1.nd fit hi (e ▸ z)⟩
  have ap : ∀ n, n ≤ m → upto m h (K30.take L ls1 b.body) n = h n := fun n hn => upto_le hn
  have aN : upto m h (K30.take L ls1 b.body) (m + 1) = K30.take L ls1 b.body := upto_at
  refine ⟨fun n hn => ?_, fun n hn => ?_, fun n hn => ?_, fun a b' ha e => ?_, fun a b' hf e => ?_, fun a a' q q' ha ha' e e' r r' hq hs => ?_, fun n hn a l => ?_, fun a b' l e => ?_⟩
  · rw [ap n (by omega)]
    by_cases z : n = m
    · subst z
      rw [aN]
      rcases hb with ⟨e, k⟩ | ⟨q, r, e, e2⟩
      · subst e
        exact .inl ⟨b, wN, k, rfl⟩
      · obtain ⟨_, eh, _, ep⟩ := okm.enter e
        refine .inr ⟨fun b' w' => ?_, q, r, b, e, ?_, by rw [e2]⟩
        · exfalso
          have hx : rd' (L.ad (h n).head (h n).place) = d (L.ad (h n).head (h n).place) := same _ fun i hi z => by
            rw [e2, eh, ep, ad_add] at z
            rw [e2, ep] at fit
            obtain ⟨z1, _⟩ := ad_inj w'.hp (by omega) z
            have nd := okm.nd
            rw [e, z1] at nd
            exact absurd List.mem_cons_self (List.nodup_cons.mp nd).1
          have := w'.at_
          rw [hx] at this
          have := H.sq _ _ ad_ge this
          have := w'.sq
          omega
        · rw [e2, eh, ep] at wN
          exact wN
    · rw [ap (n + 1) (by omega)]
      exact step_up olderX (by omega) (by omega) (H.st n (by omega))
  · by_cases z : n ≤ m
    · rw [ap n z]; exact (H.ok n z).mono (oldP n z)
    · have : n = m + 1 := by omega
      subst this
      rw [aN]; exact okN
  · by_cases z : n ≤ m
    · rw [ap n z, contL_congr (oldP n z), upto_le z]
      exact H.ct n z
    · have : n = m + 1 := by omega
      subst this
      rw [aN, upto_at]
      exact hA old1
  · rcases split a with ⟨i, hi, e2⟩ | e2
    · obtain ⟨q, e1, e3, _⟩ := newS i hi
      rw [← e2, e] at e1
      cases e1
      omega
    · rw [e2] at e
      have := H.sq a b' ha e
      omega
  · rw [aN] at hf
    obtain ⟨f1, f2⟩ := frN a hf
    rw [same a f2] at e
    exact H.fr a b' f1 e
  · rcases split a with ⟨i, hi, e2⟩ | e2
    · obtain ⟨x, e1, e3, e4⟩ := newS i hi
      rw [← e2, e] at e1
      cases e1
      rcases split a' with ⟨j, hj, e5⟩ | e5
      · obtain ⟨x, e6, e7, e8⟩ := newS j hj
        rw [← e5, e'] at e6
        cases e6
        omega
      · rw [e5] at e'
        have := H.sq a' q' ha' e'
        omega
    · rw [e2] at e
      rcases split a' with ⟨j, hj, e5⟩ | e5
      · obtain ⟨x, e6, e7, e8⟩ := newS j hj
        rw [← e5, e'] at e6
        cases e6
        have := H.sq a q ha e
        omega
      · rw [e5] at e'
        exact H.un a a' q q' ha ha' e e' r r' hq hs
  · rw [aN]
    intro hf
    obtain ⟨f1, f2⟩ := frN a hf
    by_cases z : n ≤ m
    · rw [ap n z] at l
      exact H.lf n z a l f1
    · have : n = m + 1 := by omega
      subst this
      rw [aN] at l
      exact okN.fr l hf
  · rw [ap 0 (by omega)] at l
    rw [old 0 (by omega) a l] at e
    exact H.kl a b' l e
end
/-- a history of no batch -/
theorem Hist.new {L : Lay} {rd : Rd} {s0 : Nat} {ls : LS} (ok : LOK L rd ls) (sq : ∀ a b, 2 * L.rb ≤ a → rd a = some b → b.seq ≤ s0) : Hist L rd s0 0 (fun _ => ls) (fun _ => contL rd ls) where
  st := fun n hn => absurd hn (Nat.not_lt_zero n)
  ok := fun _ _ => ok
  ct := fun _ _ => rfl
  sq := sq
  fr := fun a b ⟨g, p, e, _⟩ e2 => sq a b (by rw [e]; exact ad_ge) e2
  un := fun a a' b b' ha _ e _ _ _ _ hs => by have := sq a b ha e; omega
  lf := fun _ _ _ l => ok.fr l
  kl := fun a b l e => sq a b (live_ge ok l) e
end K30

namespace K30
/-! ## M4: the numbers of a checkpoint -/
theorem Lay.Ok.rbfan {L : Lay} (O : L.Ok) : L.nums ≤ L.rb * L.fan := by
  unfold Lay.rb Lay.fan
  rcases O.z with e | e | e <;> rw [e] <;> omega
theorem Lay.Ok.rb1 {L : Lay} (O : L.Ok) : 0 < L.rb := by
  have : 0 < L.nums := by unfold Lay.nums; omega
  unfold Lay.rb
  rcases O.z with e | e | e <;> rw [e] <;> omega
theorem Lay.Ok.fan1 {L : Lay} (O : L.Ok) : 0 < L.fan := by
  unfold Lay.fan
  rcases O.z with e | e | e <;> rw [e] <;> omega
theorem Lay.Ok.last1 {L : Lay} (O : L.Ok) : 0 < L.lastId := by
  have := O.b16
  unfold Lay.lastId Lay.pay; omega
def slotNums (w : Nat) : Option (List Nat) → List Nat
  | none => List.replicate (w + 1) 0
  | some t => 1 :: t.drop 1
def ckHead (L : Lay) (ls : LS) : List Nat := ls.present.drop 1 ++ ls.slots.flatMap (slotNums L.lastId) ++ [ls.head, ls.place, ls.queue.length] ++ ls.queue
def ckNums (L : Lay) (ls : LS) : List Nat := ckHead L ls ++ List.replicate (L.rb * L.fan - (ckHead L ls).length) 0
def slotBad (w : Nat) (xs : List Nat) : Bool := decide (1 < xs.headD 0) || (decide (xs.headD 0 = 0) && ((xs.drop 1).take w).any fun a => decide (0 < a))
def slotVal (w : Nat) (xs : List Nat) : Option (List Nat) := if xs.headD 0 = 1 then some (0 :: (xs.drop 1).take w) else none
def readTail (L : Lay) (p : List Nat) (sl : List (Option (List Nat))) (xs : List Nat) : Option LS :=
  if L.segs < xs.getD 2 0 ∨ ((xs.drop (3 + xs.getD 2 0)).any fun a => decide (0 < a)) = true then none
  else some ⟨p, sl, xs.getD 0 0, xs.getD 1 0, (xs.drop 3).take (xs.getD 2 0)⟩
def readNums (L : Lay) (nums : List Nat) : Option LS :=
  if slotBad L.lastId (nums.drop L.lastId) = true then none
  else if slotBad L.lastId (nums.drop (L.lastId + (1 + L.lastId))) = true then none
  else if slotBad L.lastId (nums.drop (L.lastId + (1 + L.lastId) + (1 + L.lastId))) = true then none
  else readTail L (0 :: nums.take L.lastId) [slotVal L.lastId (nums.drop L.lastId), slotVal L.lastId (nums.drop (L.lastId + (1 + L.lastId))), slotVal L.lastId (nums.drop (L.lastId + (1 + L.lastId) + (1 + L.lastId)))]
    (nums.drop (L.lastId + (1 + L.lastId) + (1 + L.lastId) + (1 + L.lastId)))
theorem slotNums_len {w : Nat} {o : Option (List Nat)} (h : ∀ t, o = some t → t.length = w + 1) : (slotNums w o).length = 1 + w := by
  cases o with
  | none => simp [slotNums]; omega
  | some t => have := h t rfl; simp [slotNums, this]; omega
theorem any_zeros {n : Nat} : (List.replicate n 0).any (fun a => decide (0 < a)) = false := by
  induction n with
  | zero => rfl
  | succ n ih => rw [List.replicate_succ, List.any_cons, ih]; rfl
theorem slot_back {w : Nat} {o : Option (List Nat)} {r : List Nat} (h : ∀ t, o = some t → t.length = w + 1 ∧ t.getD 0 0 = 0) : slotBad w (slotNums w o ++ r) = false ∧ slotVal w (slotNums w o ++ r) = o := by
  cases o with
  | none =>
    have e : slotNums w none ++ r = 0 :: (List.replicate w 0 ++ r) := by simp [slotNums, List.replicate_succ]
    have e2 : ((0 :: (List.replicate w 0 ++ r)).drop 1).take w = List.replicate w 0 := by
      rw [List.drop_one, List.tail_cons, List.take_append_of_le_length (by simp), List.take_of_length_le (by simp)]
    rw [e]
    refine ⟨?_, rfl⟩
    unfold slotBad
    rw [e2, any_zeros]
    rfl
  | some t =>
    obtain ⟨h1, h2⟩ := h t rfl
    obtain ⟨x, t', rfl⟩ : ∃ x t', t = x :: t' := by
      cases t with
      | nil => simp at h1
      | cons x t' => exact ⟨x, t', rfl⟩
    have hx : x = 0 := by simpa using h2
    subst hx
    have hl : t'.length = w := by simpa using h1
    have e : slotNums w (some (0 :: t')) ++ r = 1 :: (t' ++ r) := rfl
    have e2 : ((1 :: (t' ++ r)).drop 1).take w = t' := by
      rw [List.drop_one, List.tail_cons, List.take_append_of_le_length (by omega), List.take_of_length_le (by omega)]
    rw [e]
    refine ⟨?_, ?_⟩
    · unfold slotBad; rfl
    · unfold slotVal
      rw [e2]
      rfl
theorem ckHead_len {L : Lay} {ls : LS} (h3 : ls.slots.length = 3) (tl : ∀ t ∈ tabs ls, t.length = L.lastId + 1) : (ckHead L ls).length = 4 * L.lastId + 6 + ls.queue.length := by
  obtain ⟨p, sl, hd, pl, q⟩ := ls
  match sl, h3 with
  | [a, b, c], _ =>
    have hp : p.length = L.lastId + 1 := tl p tabs_p
    have ha := slotNums_len (w := L.lastId) (o := a) fun t e => tl t (tabs_s (by simp [e]))
    have hb := slotNums_len (w := L.lastId) (o := b) fun t e => tl t (tabs_s (by simp [e]))
    have hc := slotNums_len (w := L.lastId) (o := c) fun t e => tl t (tabs_s (by simp [e]))
    simp [ckHead, ha, hb, hc, hp]
    omega
theorem ck_back {L : Lay} {ls : LS} (h3 : ls.slots.length = 3) (tl : ∀ t ∈ tabs ls, t.length = L.lastId + 1) (z0 : ∀ t ∈ tabs ls, t.getD 0 0 = 0) (hq : ls.queue.length ≤ L.segs) : readNums L (ckNums L ls) = some ls := by
  obtain ⟨p, sl, hd, pl, q⟩ := ls
  match sl, h3 with
  | [a, b, c], _ =>
    have hp : p.length = L.lastId + 1 := tl p tabs_p
    have hp0 := z0 p tabs_p
    obtain ⟨x, p', rfl⟩ : ∃ x t', p = x :: t' := by
      cases p with
      | nil => simp at hp
      | cons x t' => exact ⟨x, t', rfl⟩
    have hx : x = 0 := by simpa using hp0
    subst hx
    have hl : p'.length = L.lastId := by simpa using hp
    have fa : ∀ t, a = some t → t.length = L.lastId + 1 ∧ t.getD 0 0 = 0 := fun t e => ⟨tl t (tabs_s (by simp [e])), z0 t (tabs_s (by simp [e]))⟩
    have fb : ∀ t, b = some t → t.length = L.lastId + 1 ∧ t.getD 0 0 = 0 := fun t e => ⟨tl t (tabs_s (by simp [e])), z0 t (tabs_s (by simp [e]))⟩
    have fc : ∀ t, c = some t → t.length = L.lastId + 1 ∧ t.getD 0 0 = 0 := fun t e => ⟨tl t (tabs_s (by simp [e])), z0 t (tabs_s (by simp [e]))⟩
    have la := slotNums_len fun t e => (fa t e).1
    have lb := slotNums_len fun t e => (fb t e).1
    have lc := slotNums_len fun t e => (fc t e).1
    generalize hz : List.replicate (L.rb * L.fan - (ckHead L ⟨0 :: p', [a, b, c], hd, pl, q⟩).length) 0 = z
    have e0 : ckNums L ⟨0 :: p', [a, b, c], hd, pl, q⟩ = p' ++ (slotNums L.lastId a ++ (slotNums L.lastId b ++ (slotNums L.lastId c ++ (hd :: pl :: q.length :: (q ++ z))))) := by
      unfold ckNums
      rw [hz]
      simp [ckHead]
    have d1 : (ckNums L ⟨0 :: p', [a, b, c], hd, pl, q⟩).drop L.lastId = slotNums L.lastId a ++ (slotNums L.lastId b ++ (slotNums L.lastId c ++ (hd :: pl :: q.length :: (q ++ z)))) := by
      rw [e0, ← hl, List.drop_left]
    have d2 : (ckNums L ⟨0 :: p', [a, b, c], hd, pl, q⟩).drop (L.lastId + (1 + L.lastId)) = slotNums L.lastId b ++ (slotNums L.lastId c ++ (hd :: pl :: q.length :: (q ++ z))) := by
      rw [← List.drop_drop, d1, ← la, List.drop_left]
    have d3 : (ckNums L ⟨0 :: p', [a, b, c], hd, pl, q⟩).drop (L.lastId + (1 + L.lastId) + (1 + L.lastId)) = slotNums L.lastId c ++ (hd :: pl :: q.length :: (q ++ z)) := by
      rw [← List.drop_drop, d2, ← lb, List.drop_left]
    have d4 : (ckNums L ⟨0 :: p', [a, b, c], hd, pl, q⟩).drop (L.lastId + (1 + L.lastId) + (1 + L.lastId) + (1 + L.lastId)) = hd :: pl :: q.length :: (q ++ z) := by
      rw [← List.drop_drop, d3, ← lc, List.drop_left]
    have tk : (ckNums L ⟨0 :: p', [a, b, c], hd, pl, q⟩).take L.lastId = p' := by
      rw [e0, ← hl, List.take_left]
    unfold readNums
    rw [d1, d2, d3, d4, tk, (slot_back fa).1, (slot_back fb).1, (slot_back fc).1, (slot_back fa).2, (slot_back fb).2, (slot_back fc).2]
    simp only [Bool.false_eq_true, if_false]
    unfold readTail
    have g2 : (hd :: pl :: q.length :: (q ++ z)).getD 2 0 = q.length := rfl
    rw [g2]
    have dz : (hd :: pl :: q.length :: (q ++ z)).drop (3 + q.length) = z := by
      rw [← List.drop_drop]
      show (q ++ z).drop q.length = z
      rw [List.drop_left]
    have az : (z.any fun a => decide (0 < a)) = false := by rw [← hz]; exact any_zeros
    have hle : ¬ (L.segs < q.length) := Nat.not_lt.mpr hq
    rw [dz, az, if_neg (by simpa using hle)]
    have tq : ((hd :: pl :: q.length :: (q ++ z)).drop 3).take q.length = q := by
      show (q ++ z).take q.length = q
      rw [List.take_left]
    rw [tq]
    rfl
theorem ckNums_len {L : Lay} (O : L.Ok) {ls : LS} (h3 : ls.slots.length = 3) (tl : ∀ t ∈ tabs ls, t.length = L.lastId + 1) (hq : ls.queue.length ≤ L.segs) : (ckNums L ls).length = L.rb * L.fan := by
  have h1 := ckHead_len h3 tl
  have h2 := O.rbfan
  unfold Lay.nums at h2
  unfold ckNums
  rw [List.length_append, List.length_replicate]
  omega
/-! ### parts -/
def part (L : Lay) (nums : List Nat) (k : Nat) : List Nat := (nums.drop (k * L.fan)).take L.fan
theorem parts_take {L : Lay} {nums : List Nat} : ∀ n, ((List.range n).flatMap fun k => part L nums k) = nums.take (n * L.fan)
  | 0 => by simp
  | n + 1 => by
    rw [List.range_succ, List.flatMap_append, parts_take n]
    simp only [List.flatMap_cons, List.flatMap_nil, List.append_nil]
    unfold part
    rw [Nat.add_mul, Nat.one_mul, List.take_add]
theorem parts_all {L : Lay} {nums : List Nat} {n : Nat} (h : nums.length = n * L.fan) : ((List.range n).flatMap fun k => part L nums k) = nums := by
  rw [parts_take, ← h, List.take_length]
theorem part_len {L : Lay} {nums : List Nat} {k n : Nat} (h : nums.length = n * L.fan) (hk : k < n) : (part L nums k).length = L.fan := by
  have h1 : (k + 1) * L.fan ≤ n * L.fan := Nat.mul_le_mul_right _ hk
  rw [Nat.add_mul, Nat.one_mul] at h1
  unfold part
  rw [List.length_take, List.length_drop]
  omega
/-! ### regions -/
def RegOk (L : Lay) (rd : Rd) (r : Nat) : Prop := ∀ k, k < L.rb → ∃ b f, rd (r * L.rb + k) = some b ∧ rd (r * L.rb) = some f ∧ b.kind = 5 ∧ b.seq = f.seq ∧ b.rank = k
def regNums (L : Lay) (rd : Rd) (r : Nat) : List Nat := (List.range L.rb).flatMap fun k => match rd (r * L.rb + k) with
  | some b => b.body.xs
  | none => []
/-- a region holds a checkpoint -/
def CkIn (L : Lay) (rd : Rd) (r s : Nat) (nums : List Nat) : Prop := RegOk L rd r ∧ nums = regNums L rd r ∧ (readNums L nums).isSome = true ∧ ∃ f, rd (r * L.rb) = some f ∧ f.seq = s
/-- .. it was written there -/
def RegHas (L : Lay) (rd : Rd) (r s : Nat) (nums : List Nat) : Prop := nums.length = L.rb * L.fan ∧ ∀ k, k < L.rb → rd (r * L.rb + k) = some ⟨5, s, k, .flat (part L nums k)⟩
theorem RegHas.ck {L : Lay} (O : L.Ok) {rd : Rd} {r s : Nat} {nums : List Nat} (h : RegHas L rd r s nums) (hr : (readNums L nums).isSome = true) : CkIn L rd r s nums := by
  have e0 := h.2 0 O.rb1
  rw [Nat.add_zero] at e0
  refine ⟨fun k hk => ⟨_, _, h.2 k hk, e0, rfl, rfl, rfl⟩, ?_, hr, _, e0, rfl⟩
  unfold regNums
  rw [← parts_all h.1]
  have hl : ∀ k ∈ List.range L.rb, part L ((List.range L.rb).flatMap fun k => part L nums k) k = match rd (r * L.rb + k) with
    | some b => b.body.xs
    | none => [] := fun k hk => by
    rw [h.2 k (List.mem_range.mp hk), parts_all h.1]
    rfl
  have : ∀ l : List Nat, (∀ k ∈ l, k < L.rb) → (l.flatMap fun k => part L nums k) = l.flatMap fun k => match rd (r * L.rb + k) with
    | some b => b.body.xs
    | none => [] := by
    intro l
    induction l with
    | nil => intro _; rfl
    | cons k l ih =>
      intro hl
      rw [List.flatMap_cons, List.flatMap_cons, ih fun j hj => hl j (List.mem_cons_of_mem _ hj), h.2 k (hl k List.mem_cons_self)]
      rfl
  exact this _ fun k hk => List.mem_range.mp hk
theorem CkIn.seq {L : Lay} {rd : Rd} {r s : Nat} {nums : List Nat} (h : CkIn L rd r s nums) {k : Nat} (hk : k < L.rb) : ∃ b, rd (r * L.rb + k) = some b ∧ b.seq = s := by
  obtain ⟨h1, _, _, f, e, es⟩ := h
  obtain ⟨b, f', e1, e2, _, e3, _⟩ := h1 k hk
  rw [e] at e2; cases e2
  exact ⟨b, e1, e3.trans es⟩
theorem CkIn.nums_eq {L : Lay} {rd : Rd} {r s s' : Nat} {n n' : List Nat} (h : CkIn L rd r s n) (h' : CkIn L rd r s' n') : s = s' ∧ n = n' := by
  obtain ⟨_, e, _, f, f1, f2⟩ := h
  obtain ⟨_, e', _, f', f1', f2'⟩ := h'
  rw [f1] at f1'; cases f1'
  exact ⟨f2.symm.trans f2', e.trans e'.symm⟩
/-! ### what recovery finds -/
structure Rec (L : Lay) (c : Rd) (r s0 n : Nat) (h : Nat → LS) : Prop where
  r2 : r < 2
  ck : ∃ nums, CkIn L c r s0 nums ∧ readNums L nums = some (h 0)
  ot : ∀ s' n', CkIn L c (1 - r) s' n' → s' < s0
  st : ∀ i, i < n → Step L c (h i) (s0 + i + 1) (h (i + 1))
  no : NoStep L c (h n) (s0 + n + 1)
  ok : LOK L c (h n)
def Good (L : Lay) (S : AS → Prop) (c : Rd) : Prop := ∃ r s0 n h, Rec L c r s0 n h ∧ S (contL c (h n))
theorem Good.mono {L : Lay} {S S' : AS → Prop} {c : Rd} (h : Good L S c) (hs : ∀ A, S A → S' A) : Good L S' c := by
  obtain ⟨r, s0, n, h, h1, h2⟩ := h
  exact ⟨r, s0, n, h, h1, hs _ h2⟩
/-- a crash among batches -/
theorem crash1 {L : Lay} (O : L.Ok) {c d : Rd} {t s0 m r : Nat} {h : Nat → LS} {A : Nat → AS} {nums : List Nat} {S : AS → Prop} (H : Hist L d s0 m h A) (o : Older L c d t s0) (ht : s0 ≤ t) (ht2 : t ≤ s0 + m)
    (hr : r < 2) (reg : RegHas L c r s0 nums) (rn : readNums L nums = some (h 0)) (ot : ∀ k, k < L.rb → ∀ b, c ((1 - r) * L.rb + k) = some b → b.seq < s0)
    (hS : ∀ n, n ≤ m → t ≤ s0 + n → S (A n)) : Good L S c := by
  obtain ⟨n, h1, h2, h3, h4, h5, h6⟩ := H.run o ht ht2
  refine ⟨r, s0, n, h, ⟨hr, ⟨nums, reg.ck O (by rw [rn]; rfl), rn⟩, fun s' n' z => ?_, h3, h4, h5⟩, by rw [h6]; exact hS n h1 h2⟩
  obtain ⟨b, e, es⟩ := z.seq O.rb1
  rw [← es]
  exact ot 0 O.rb1 b e
/-- a crash within a checkpoint (the new one has the region 1 - r, the sequence s1, the numbers of ls1) -/
theorem crash2 {L : Lay} (O : L.Ok) {c d : Rd} {s0 m r s1 : Nat} {h : Nat → LS} {A : Nat → AS} {nums : List Nat} {S : AS → Prop} {ls1 : LS} (H : Hist L d s0 m h A) (same : ∀ a, 2 * L.rb ≤ a → c a = d a)
    (hr : r < 2) (reg : RegHas L c r s0 nums) (rn : readNums L nums = some (h 0)) (h1 : s0 + m < s1) (l1 : readNums L (ckNums L ls1) = some ls1) (len1 : (ckNums L ls1).length = L.rb * L.fan) (ok1 : LOK L d ls1) (c1 : contL d ls1 = A m)
    (ot : ∀ k, k < L.rb → ∀ b, c ((1 - r) * L.rb + k) = some b → b.seq < s0 ∨ b = ⟨5, s1, k, .flat (part L (ckNums L ls1) k)⟩)
    (hS : S (A m)) : Good L S c := by
  have sp : ∀ a, 2 * L.rb ≤ a → payAt c a = payAt d a := fun a ha => by unfold payAt; rw [same a ha]
  by_cases z : RegHas L c (1 - r) s1 (ckNums L ls1)
  · have lo : ∀ a, Live ls1 a → payAt c a = payAt d a := fun a l => sp a (live_ge ok1 l)
    have sq : ∀ a b, 2 * L.rb ≤ a → c a = some b → b.seq ≤ s0 + m := fun a b ha e => H.sq a b ha (same a ha ▸ e)
    refine ⟨1 - r, s1, 0, fun _ => ls1, ⟨by omega, ⟨_, z.ck O (by rw [l1]; rfl), l1⟩, fun s' n' w => ?_, fun i hi => absurd hi (Nat.not_lt_zero i), ⟨fun b w => ?_, fun q r e b w => ?_⟩, ok1.mono lo⟩, ?_⟩
    · rw [show 1 - (1 - r) = r by omega] at w
      obtain ⟨e, _⟩ := w.nums_eq (reg.ck O (by rw [rn]; rfl))
      omega
    · have := sq _ _ ad_ge w.at_
      have := w.sq
      omega
    · have := sq _ _ ad_ge w.at_
      have := w.sq
      omega
    · rw [contL_congr lo, c1]
      exact hS
  · have o : Older L c d (s0 + m) s0 := fun a ha => .inl (same a ha)
    obtain ⟨n, g1, g2, g3, g4, g5, g6⟩ := H.run o (by omega) (Nat.le_refl _)
    have en : n = m := by omega
    subst en
    refine ⟨r, s0, n, h, ⟨hr, ⟨nums, reg.ck O (by rw [rn]; rfl), rn⟩, fun s' n' w => ?_, g3, g4, g5⟩, by rw [g6]; exact hS⟩
    refine Classical.byContradiction fun hlt => z ⟨len1, fun k hk => ?_⟩
    obtain ⟨b, e, es⟩ := w.seq hk
    rcases ot k hk b e with q | q
    · omega
    · rw [e, q]
end K30

namespace K30
/-! ## M5: devices -/
structure Dev where
  sure : List (Option Blk)
  seen : List (Option Blk)
  waiting : List (Nat × Blk)
  fuse : Option Nat
  dark : Bool
def rdl (l : List (Option Blk)) : Rd := fun a => l.getD a none
def Dev.tick (d : Dev) : Dev := match d.fuse with
  | none => d
  | some n => if d.dark = true then d else match n with
    | 0 => { d with dark := true }
    | n + 1 => { d with fuse := some n }
def Dev.put (d : Dev) (a : Nat) (b : Blk) : Dev := { d with seen := d.seen.set a (some b), waiting := if d.dark = true then d.waiting else d.waiting ++ [(a, b)] }
def Dev.write (d : Dev) (a : Nat) (b : Blk) : Dev := d.tick.put a b
def flush (l : List (Option Blk)) : List (Nat × Blk) → List (Option Blk)
  | [] => l
  | w :: r => flush (l.set w.1 (some w.2)) r
def Dev.settle (d : Dev) : Dev := if d.dark = true then d else { d with sure := flush d.sure d.waiting, waiting := [] }
def Dev.barrier (d : Dev) : Dev := d.tick.settle
def Dev.writes (d : Dev) : List (Nat × Blk) → Dev
  | [] => d
  | w :: r => (d.write w.1 w.2).writes r
def leftFrom (kept torn : List Nat) : Nat → List (Option Blk) → List (Nat × Blk) → List (Option Blk)
  | _, l, [] => l
  | i, l, w :: r => leftFrom kept torn (i + 1) (if i ∈ torn then l.set w.1 none else if i ∈ kept then l.set w.1 (some w.2) else l) r
def Dev.left (d : Dev) (kept torn : List Nat) : List (Option Blk) := leftFrom kept torn 0 d.sure d.waiting
def Dev.new (l : List (Option Blk)) : Dev := ⟨l, l, [], none, false⟩
def Dev.cutAfter (d : Dev) (n : Nat) : Dev := if d.dark = true then d else { d with fuse := some n }

theorem tick_sure (d : Dev) : d.tick.sure = d.sure := by
  unfold Dev.tick
  split
  · rfl
  · split
    · rfl
    · split <;> rfl
theorem tick_seen (d : Dev) : d.tick.seen = d.seen := by
  unfold Dev.tick
  split
  · rfl
  · split
    · rfl
    · split <;> rfl
theorem tick_wait (d : Dev) : d.tick.waiting = d.waiting := by
  unfold Dev.tick
  split
  · rfl
  · split
    · rfl
    · split <;> rfl
theorem tick_dark (d : Dev) (h : d.dark = true) : d.tick.dark = true := by
  unfold Dev.tick
  split
  · exact h
  · rw [if_pos h]; exact h
theorem rdl_set {l : List (Option Blk)} {a k : Nat} {o : Option Blk} (h : a < l.length) : rdl (l.set a o) k = if k = a then o else rdl l k := by
  unfold rdl
  simp only [List.getD, List.getElem?_set]
  by_cases e : a = k
  · subst e; simp [h]
  · have : ¬ k = a := fun q => e q.symm
    simp [e, this]
theorem flush_len : ∀ (ws : List (Nat × Blk)) (l : List (Option Blk)), (flush l ws).length = l.length
  | [], _ => rfl
  | w :: r, l => by
    unfold flush
    rw [flush_len r, List.length_set]
theorem flush_append : ∀ (ws vs : List (Nat × Blk)) (l : List (Option Blk)), flush l (ws ++ vs) = flush (flush l ws) vs
  | [], _, _ => rfl
  | w :: r, vs, l => by
    show flush (l.set w.1 (some w.2)) (r ++ vs) = _
    rw [flush_append r]
    rfl
theorem flush_not : ∀ (ws : List (Nat × Blk)) (l : List (Option Blk)) (a : Nat), (∀ b, (a, b) ∉ ws) → rdl (flush l ws) a = rdl l a
  | [], _, _, _ => rfl
  | w :: r, l, a, h => by
    unfold flush
    rw [flush_not r _ a fun b hb => h b (List.mem_cons_of_mem _ hb)]
    unfold rdl
    simp only [List.getD, List.getElem?_set]
    have : ¬ w.1 = a := fun e => h w.2 (by rw [← e]; exact List.mem_cons_self)
    simp [this]
/-- what is written stands there, if no other block is written there -/
theorem flush_at : ∀ (ws : List (Nat × Blk)) (l : List (Option Blk)) (a : Nat) (b : Blk), (a, b) ∈ ws → a < l.length → (∀ b', (a, b') ∈ ws → b' = b) → rdl (flush l ws) a = some b
  | w :: r, l, a, b, h, hl, hu => by
    unfold flush
    by_cases hr : ∃ b', (a, b') ∈ r
    · obtain ⟨b', hb'⟩ := hr
      have e := hu b' (List.mem_cons_of_mem _ hb')
      subst e
      exact flush_at r _ a b' hb' (by rw [List.length_set]; exact hl) fun b'' h'' => hu b'' (List.mem_cons_of_mem _ h'')
    · rw [flush_not r _ a fun b' hb' => hr ⟨b', hb'⟩]
      rcases List.mem_cons.mp h with e | h
      · have e1 : w.1 = a := by rw [← e]
        have e2 : w.2 = b := by rw [← e]
        rw [e1, e2, rdl_set hl, if_pos rfl]
      · exact absurd ⟨b, h⟩ hr
theorem flush_or : ∀ (ws : List (Nat × Blk)) (l : List (Option Blk)) (a : Nat), rdl (flush l ws) a = rdl l a ∨ ∃ b, (a, b) ∈ ws ∧ rdl (flush l ws) a = some b
  | [], _, _ => .inl rfl
  | w :: r, l, a => by
    unfold flush
    rcases flush_or r (l.set w.1 (some w.2)) a with e | ⟨b, h, e⟩
    · by_cases z : w.1 = a ∧ a < l.length
      · obtain ⟨rfl, hl⟩ := z
        rw [rdl_set hl, if_pos rfl] at e
        exact .inr ⟨w.2, List.mem_cons_self, e⟩
      · left
        rw [e]
        unfold rdl
        simp only [List.getD, List.getElem?_set]
        by_cases e1 : w.1 = a
        · have : ¬ a < l.length := fun q => z ⟨e1, q⟩
          rw [if_pos e1, if_neg (e1 ▸ this)]
          rw [List.getElem?_eq_none (by omega)]
        · rw [if_neg e1]
    · exact .inr ⟨b, List.mem_cons_of_mem _ h, e⟩
theorem leftFrom_len {kept torn : List Nat} : ∀ (ws : List (Nat × Blk)) (i : Nat) (l : List (Option Blk)), (leftFrom kept torn i l ws).length = l.length
  | [], _, _ => rfl
  | w :: r, i, l => by
    unfold leftFrom
    rw [leftFrom_len r]
    split
    · simp
    · split <;> simp
theorem leftFrom_or {kept torn : List Nat} : ∀ (ws : List (Nat × Blk)) (i : Nat) (l : List (Option Blk)) (a : Nat), rdl (leftFrom kept torn i l ws) a = rdl l a ∨ ∃ b, (a, b) ∈ ws ∧ (rdl (leftFrom kept torn i l ws) a = none ∨ rdl (leftFrom kept torn i l ws) a = some b)
  | [], _, _, _ => .inl rfl
  | w :: r, i, l, a => by
    unfold leftFrom
    have set_or : ∀ o, rdl (l.set w.1 o) a = rdl l a ∨ (w.1 = a ∧ rdl (l.set w.1 o) a = o) := fun o => by
      unfold rdl
      simp only [List.getD, List.getElem?_set]
      by_cases e1 : w.1 = a
      · by_cases hl : w.1 < l.length
        · right; exact ⟨e1, by simp [e1, e1 ▸ hl]⟩
        · left
          rw [if_pos e1, if_neg hl, List.getElem?_eq_none (by omega)]
      · left; rw [if_neg e1]
    rcases leftFrom_or r (i + 1) (if i ∈ torn then l.set w.1 none else if i ∈ kept then l.set w.1 (some w.2) else l) a with e | ⟨b, h, e⟩
    · rw [e]
      split
      · rcases set_or none with q | ⟨q1, q2⟩
        · exact .inl q
        · exact .inr ⟨w.2, by rw [← q1]; exact List.mem_cons_self, .inl q2⟩
      · split
        · rcases set_or (some w.2) with q | ⟨q1, q2⟩
          · exact .inl q
          · exact .inr ⟨w.2, by rw [← q1]; exact List.mem_cons_self, .inr q2⟩
        · exact .inl rfl
    · exact .inr ⟨b, List.mem_cons_of_mem _ h, e⟩
/-! ### many writes -/
theorem put_seen (d : Dev) (a : Nat) (b : Blk) : (d.put a b).seen = d.seen.set a (some b) := rfl
theorem write_seen (d : Dev) (a : Nat) (b : Blk) : (d.write a b).seen = d.seen.set a (some b) := by
  unfold Dev.write
  rw [put_seen, tick_seen]
theorem write_sure (d : Dev) (a : Nat) (b : Blk) : (d.write a b).sure = d.sure := tick_sure d
theorem write_dark (d : Dev) (a : Nat) (b : Blk) : (d.write a b).dark = d.tick.dark := rfl
theorem write_wait (d : Dev) (a : Nat) (b : Blk) : (d.write a b).waiting = if d.tick.dark = true then d.waiting else d.waiting ++ [(a, b)] := by
  show (if d.tick.dark = true then d.tick.waiting else d.tick.waiting ++ [(a, b)]) = _
  rw [tick_wait]
theorem writes_seen : ∀ (ws : List (Nat × Blk)) (d : Dev), (d.writes ws).seen = flush d.seen ws
  | [], _ => rfl
  | w :: r, d => by
    unfold Dev.writes
    rw [writes_seen r, write_seen]
    rfl
theorem writes_sure : ∀ (ws : List (Nat × Blk)) (d : Dev), (d.writes ws).sure = d.sure
  | [], _ => rfl
  | w :: r, d => by
    unfold Dev.writes
    rw [writes_sure r, write_sure]
theorem writes_dark : ∀ (ws : List (Nat × Blk)) (d : Dev), d.dark = true → (d.writes ws).dark = true ∧ (d.writes ws).waiting = d.waiting
  | [], _, h => ⟨h, rfl⟩
  | w :: r, d, h => by
    unfold Dev.writes
    have e : (d.write w.1 w.2).waiting = d.waiting := by rw [write_wait, if_pos (tick_dark d h)]
    obtain ⟨h1, h2⟩ := writes_dark r (d.write w.1 w.2) (by rw [write_dark]; exact tick_dark d h)
    exact ⟨h1, h2.trans e⟩
/-- what is pending behind some writes: some first ones of them, all of them if the power is not cut -/
theorem writes_wait : ∀ (ws : List (Nat × Blk)) (d : Dev), ∃ i, (d.writes ws).waiting = d.waiting ++ ws.take i ∧ ((d.writes ws).dark = false → ws.take i = ws)
  | [], d => ⟨0, by simp [Dev.writes], fun _ => rfl⟩
  | w :: r, d => by
    by_cases h : d.tick.dark = true
    · obtain ⟨h1, h2⟩ := writes_dark r (d.write w.1 w.2) (by rw [write_dark]; exact h)
      refine ⟨0, ?_, fun q => ?_⟩
      · unfold Dev.writes
        rw [h2, write_wait, if_pos h]; simp
      · unfold Dev.writes at q
        rw [h1] at q; cases q
    · obtain ⟨i, h1, h2⟩ := writes_wait r (d.write w.1 w.2)
      refine ⟨i + 1, ?_, fun q => ?_⟩
      · unfold Dev.writes
        rw [h1, write_wait, if_neg h, List.take_succ_cons, List.append_assoc]
        rfl
      · unfold Dev.writes at q
        rw [List.take_succ_cons, h2 q]
theorem writes_dark_of (ws : List (Nat × Blk)) (d : Dev) (h : (d.writes ws).dark = false) : d.dark = false := by
  cases e : d.dark with
  | false => rfl
  | true => rw [(writes_dark ws d e).1] at h; cases h
/-! ### the state of a log on its device -/
structure St where
  dev : Dev
  ls : LS
  seq : Nat
  reg : Nat
def St.rd (st : St) : Rd := rdl st.dev.seen
/-- what always holds, the power cut or not -/
structure SOK (L : Lay) (st : St) (A : AS) : Prop where
  ls : st.dev.seen.length = L.db
  lu : st.dev.sure.length = L.db
  lw : ∀ x ∈ st.dev.waiting, x.1 < L.db
  ok : LOK L st.rd st.ls
  ct : contL st.rd st.ls = A
  ws : ∀ a b, st.rd a = some b → b.Wt L
  wu : ∀ a b, rdl st.dev.sure a = some b → b.Wt L
  ww : ∀ x ∈ st.dev.waiting, x.2.Wt L
  rg : st.reg < 2
structure Dur1 (L : Lay) (st : St) (A : AS) (S : AS → Prop) (s0 m t : Nat) (h : Nat → LS) (Ah : Nat → AS) (nums : List Nat) : Prop where
  hi : Hist L st.rd s0 m h Ah
  hm : h m = st.ls
  am : Ah m = A
  sq : st.seq = s0 + m
  t0 : s0 ≤ t
  t1 : t ≤ s0 + m
  sS : ∀ n, n ≤ m → t ≤ s0 + n → S (Ah n)
  rn : readNums L nums = some (h 0)
  rg : RegHas L st.rd st.reg s0 nums
  ot : ∀ k, k < L.rb → ∀ b, st.rd ((1 - st.reg) * L.rb + k) = some b → b.seq < s0
  pe : ∀ a b, (a, b) ∈ st.dev.waiting → 2 * L.rb ≤ a ∧ st.rd a = some b ∧ t < b.seq ∧ ∀ b', rdl st.dev.sure a = some b' → b'.seq ≤ s0
  sa : ∀ a, (∀ b, (a, b) ∉ st.dev.waiting) → rdl st.dev.sure a = st.rd a
def Dur (L : Lay) (st : St) (A : AS) (S : AS → Prop) : Prop := ∃ s0 m t h Ah nums, Dur1 L st A S s0 m t h Ah nums
def Frz (L : Lay) (S : AS → Prop) (d : Dev) : Prop := ∀ kept torn, Good L S (rdl (d.left kept torn))
structure SI (L : Lay) (st : St) (A : AS) (S : AS → Prop) : Prop where
  ok : SOK L st A
  du : st.dev.dark = false → Dur L st A S
  fz : st.dev.dark = true → Frz L S st.dev
theorem Dur1.mono {L : Lay} {st : St} {A : AS} {S S' : AS → Prop} {s0 m t : Nat} {h : Nat → LS} {Ah : Nat → AS} {nums : List Nat} (D : Dur1 L st A S s0 m t h Ah nums) (hs : ∀ A, S A → S' A) : Dur1 L st A S' s0 m t h Ah nums :=
  ⟨D.hi, D.hm, D.am, D.sq, D.t0, D.t1, fun n h1 h2 => hs _ (D.sS n h1 h2), D.rn, D.rg, D.ot, D.pe, D.sa⟩
theorem SI.mono {L : Lay} {st : St} {A : AS} {S S' : AS → Prop} (h : SI L st A S) (hs : ∀ A, S A → S' A) : SI L st A S' :=
  ⟨h.ok, fun z => let ⟨s0, m, t, hh, Ah, nums, D⟩ := h.du z; ⟨s0, m, t, hh, Ah, nums, D.mono hs⟩, fun z k t => (h.fz z k t).mono hs⟩
theorem reg_lt {L : Lay} {r k : Nat} (hr : r < 2) (hk : k < L.rb) : r * L.rb + k < 2 * L.rb := by
  have h1 : (r + 1) * L.rb ≤ 2 * L.rb := Nat.mul_le_mul_right _ hr
  rw [Nat.add_mul, Nat.one_mul] at h1
  omega
theorem reg_ne {L : Lay} {r r' k k' : Nat} (hk : k < L.rb) (hk' : k' < L.rb) (h : r * L.rb + k = r' * L.rb + k') : r = r' ∧ k = k' := by
  have e : r = r' := by rw [← divB (g := r) hk, h, divB hk']
  subst e
  exact ⟨rfl, by omega⟩
/-- a crash of a state that the power has not left, w of its pending writes being made -/
theorem Dur1.crashW {L : Lay} (O : L.Ok) {st : St} {A : AS} {S : AS → Prop} {s0 m t : Nat} {h : Nat → LS} {Ah : Nat → AS} {nums : List Nat} (D : Dur1 L st A S s0 m t h Ah nums) (hr : st.reg < 2)
    {w : List (Nat × Blk)} (hw : ∀ x ∈ w, x ∈ st.dev.waiting) (kept torn : List Nat) : Good L S (rdl (leftFrom kept torn 0 st.dev.sure w)) := by
  have base : ∀ a, rdl (leftFrom kept torn 0 st.dev.sure w) a = st.rd a ∨ (∃ b, (a, b) ∈ st.dev.waiting ∧ ∀ b', rdl (leftFrom kept torn 0 st.dev.sure w) a = some b' → b'.seq ≤ s0) := fun a => by
    rcases leftFrom_or (kept := kept) (torn := torn) w 0 st.dev.sure a with e | ⟨b, hb, e⟩
    · by_cases hv : ∃ b, (a, b) ∈ st.dev.waiting
      · obtain ⟨b0, hb0⟩ := hv
        obtain ⟨p1, p2, p3, p4⟩ := D.pe a b0 hb0
        exact .inr ⟨b0, hb0, fun b' hb' => p4 b' (e ▸ hb')⟩
      · exact .inl (e.trans (D.sa a fun b hb => hv ⟨b, hb⟩))
    · have hb1 := hw _ hb
      rcases e with e | e
      · exact .inr ⟨b, hb1, fun b' hb' => by rw [e] at hb'; cases hb'⟩
      · exact .inl (by rw [e]; exact (D.pe a b hb1).2.1.symm)
  have low : ∀ a, a < 2 * L.rb → rdl (leftFrom kept torn 0 st.dev.sure w) a = st.rd a := fun a ha => by
    rcases base a with e | ⟨b, hb, _⟩
    · exact e
    · have := (D.pe a b hb).1; omega
  refine crash1 O D.hi (t := t) (r := st.reg) (nums := nums) (fun a ha => ?_) D.t0 D.t1 hr ⟨D.rg.1, fun k hk => ?_⟩ D.rn (fun k hk b e => ?_) D.sS
  · rcases base a with e | ⟨b, hb, hx⟩
    · exact .inl e
    · obtain ⟨_, p2, p3, _⟩ := D.pe a b hb
      exact .inr ⟨⟨b, p2, p3⟩, hx⟩
  · rw [low _ (reg_lt hr hk)]; exact D.rg.2 k hk
  · rw [low _ (reg_lt (by omega) hk)] at e
    exact D.ot k hk b e
theorem Dur1.crash {L : Lay} (O : L.Ok) {st : St} {A : AS} {S : AS → Prop} {s0 m t : Nat} {h : Nat → LS} {Ah : Nat → AS} {nums : List Nat} (D : Dur1 L st A S s0 m t h Ah nums) (hr : st.reg < 2) : Frz L S st.dev :=
  fun kept torn => D.crashW O hr (fun _ z => z) kept torn
theorem Dur1.congr {L : Lay} {st st' : St} {A : AS} {S : AS → Prop} {s0 m t : Nat} {h : Nat → LS} {Ah : Nat → AS} {nums : List Nat} (D : Dur1 L st A S s0 m t h Ah nums) (e1 : st'.dev.seen = st.dev.seen) (e2 : st'.dev.sure = st.dev.sure)
    (e3 : st'.dev.waiting = st.dev.waiting) (e4 : st'.ls = st.ls) (e5 : st'.seq = st.seq) (e6 : st'.reg = st.reg) : Dur1 L st' A S s0 m t h Ah nums := by
  have er : st'.rd = st.rd := by unfold St.rd; rw [e1]
  exact ⟨er ▸ D.hi, D.hm.trans e4.symm, D.am, e5.trans D.sq, D.t0, D.t1, D.sS, D.rn, by rw [er, e6]; exact D.rg, by rw [er, e6]; exact D.ot, by rw [er, e2, e3]; exact D.pe, by rw [er, e2, e3]; exact D.sa⟩
theorem SI.crash {L : Lay} (O : L.Ok) {st : St} {A : AS} {S : AS → Prop} (h : SI L st A S) : Frz L S st.dev := by
  cases e : st.dev.dark with
  | true => exact h.fz e
  | false =>
    obtain ⟨s0, m, t, hh, Ah, nums, D⟩ := h.du e
    exact D.crash O h.ok.rg
end K30

namespace K30
/-! ## M6: what each operation keeps -/
def payWs (start seq : Nat) : Nat → List Pay → List (Nat × Blk)
  | _, [] => []
  | i, p :: r => (start + (i + 1), ⟨p.1, seq, i + 1, .flat p.2⟩) :: payWs start seq (i + 1) r
def batchWs (start : Nat) (b : Blk) (pays : List Pay) : List (Nat × Blk) := (start, b) :: payWs start b.seq 0 pays
def writeBatch (L : Lay) (st : St) (kind : Nat) (body : Body) (pays : List Pay) : St :=
  { dev := st.dev.writes (batchWs (L.ad st.ls.head st.ls.place) ⟨kind, st.seq + 1, 0, body⟩ pays), ls := take L st.ls body, seq := st.seq + 1, reg := st.reg }
def enterSt (st : St) : St := { st with ls := enter st.ls }
theorem payWs_mem {start seq : Nat} : ∀ (pays : List Pay) (i : Nat) (x : Nat × Blk), x ∈ payWs start seq i pays ↔ ∃ j, ∃ h : j < pays.length, x = (start + (i + j + 1), ⟨pays[j].1, seq, i + j + 1, .flat pays[j].2⟩)
  | [], i, x => by simp [payWs]
  | p :: r, i, x => by
    unfold payWs
    rw [List.mem_cons, payWs_mem r (i + 1) x]
    constructor
    · rintro (e | ⟨j, h, e⟩)
      · exact ⟨0, by simp, e⟩
      · refine ⟨j + 1, by simpa using h, ?_⟩
        rw [e]
        have e1 : i + 1 + j + 1 = i + (j + 1) + 1 := by omega
        rw [e1]
        rfl
    · rintro ⟨j, h, e⟩
      cases j with
      | zero => exact .inl e
      | succ j =>
        refine .inr ⟨j, by simpa using h, ?_⟩
        rw [e]
        have e1 : i + 1 + j + 1 = i + (j + 1) + 1 := by omega
        rw [e1]
        rfl
section
variable {start : Nat} {b : Blk} {pays : List Pay}
theorem batchWs_mem {x : Nat × Blk} : x ∈ batchWs start b pays ↔ x = (start, b) ∨ ∃ j, ∃ h : j < pays.length, x = (start + (j + 1), ⟨pays[j].1, b.seq, j + 1, .flat pays[j].2⟩) := by
  unfold batchWs
  rw [List.mem_cons, payWs_mem]
  simp only [Nat.zero_add]
theorem batchWs_u {a : Nat} {x y : Blk} (h : (a, x) ∈ batchWs start b pays) (h' : (a, y) ∈ batchWs start b pays) : x = y := by
  rcases batchWs_mem.mp h with e | ⟨j, hj, e⟩
  · rcases batchWs_mem.mp h' with e' | ⟨j', hj', e'⟩
    · injection e with e1 e2; injection e' with e3 e4; rw [e2, e4]
    · injection e with e1 e2; injection e' with e3 e4; omega
  · rcases batchWs_mem.mp h' with e' | ⟨j', hj', e'⟩
    · injection e with e1 e2; injection e' with e3 e4; omega
    · injection e with e1 e2; injection e' with e3 e4
      have : j = j' := by omega
      subst this
      rw [e2, e4]
theorem batchWs_i {a : Nat} {x : Blk} (h : (a, x) ∈ batchWs start b pays) (r : b.rank = 0) : ∃ i, i ≤ pays.length ∧ a = start + i ∧ x.seq = b.seq := by
  rcases batchWs_mem.mp h with e | ⟨j, hj, e⟩
  · injection e with e1 e2
    exact ⟨0, Nat.zero_le _, e1, by rw [e2]⟩
  · injection e with e1 e2
    exact ⟨j + 1, by omega, e1, by rw [e2]⟩
end
theorem rdl_ge {l : List (Option Blk)} {a : Nat} (h : l.length ≤ a) : rdl l a = none := by
  unfold rdl; simp [List.getD, List.getElem?_eq_none h]
/-- a batch -/
theorem batch_ok {L : Lay} (O : L.Ok) {st : St} {A A' : AS} {S S' : AS → Prop} {ls1 : LS} {kind : Nat} {body : Body} {pays : List Pay} (h : SI L st A S)
    (hb : (ls1 = st.ls ∧ kind = 1) ∨ ∃ q r, st.ls.queue = q :: r ∧ ls1 = enter st.ls)
    (hl : pays.length = body.cnt) (fit : ls1.place + body.cnt < L.blks) (bk : kind = 1 ∨ kind = 2) (bc : isCom body = true ↔ kind = 1) (bu : ∀ ids used act, body = .com ids used act → act ≤ 6 ∧ used.length ≤ 1000) (pk : ∀ p ∈ pays, p.1 = 3 ∨ p.1 = 4)
    (hA : ∀ rd' : Rd, (∀ a, Live ls1 a → payAt rd' a = payAt st.rd a) → (∀ i (h : i < pays.length), payAt rd' (L.ad ls1.head ls1.place + (i + 1)) = some pays[i]) → contL rd' (K30.take L ls1 body) = A')
    (hS : ∀ A, S A → S' A) (hS' : st.dev.dark = false → S' A') : SI L (writeBatch L { st with ls := ls1 } kind body pays) A' S' := by
  have okm := h.ok.ok
  have ok1 : LOK L st.rd ls1 ∧ (∀ a, Fresh L ls1 a → Fresh L st.ls a) := by
    rcases hb with ⟨e, _⟩ | ⟨q, r, e, e2⟩
    · subst e; exact ⟨okm, fun _ z => z⟩
    · subst e2; exact ⟨(okm.enter e).1, fun a z => enter_fresh e z⟩
  obtain ⟨ok1, fr1⟩ := ok1
  have hhd : ls1.head < L.segs := ok1.hr _ List.mem_cons_self
  generalize hstart : L.ad ls1.head ls1.place = start
  generalize hblk : (⟨kind, st.seq + 1, 0, body⟩ : Blk) = b
  have bsq : b.seq = st.seq + 1 := by rw [← hblk]
  have brk : b.rank = 0 := by rw [← hblk]
  have bbd : b.body = body := by rw [← hblk]
  have bkd : b.kind = kind := by rw [← hblk]
  generalize hws : batchWs start b pays = ws
  have wi : ∀ a x, (a, x) ∈ ws → ∃ i, i ≤ pays.length ∧ a = start + i ∧ x.seq = st.seq + 1 := fun a x hx => by
    rw [← hws] at hx
    obtain ⟨i, h1, h2, h3⟩ := batchWs_i hx brk
    exact ⟨i, h1, h2, h3.trans bsq⟩
  have wu : ∀ a x y, (a, x) ∈ ws → (a, y) ∈ ws → y = x := fun a x y h1 h2 => by
    rw [← hws] at h1 h2
    exact batchWs_u h2 h1
  have wlt : ∀ i, i ≤ pays.length → start + i < L.db := fun i hi => by
    rw [← hstart, ad_add]; exact ad_lt hhd (by omega)
  have wfr : ∀ i, i ≤ pays.length → Fresh L st.ls (start + i) := fun i hi => by
    rw [← hstart]; exact fr1 _ (fresh_own (n := body.cnt) fit (by omega))
  have est : writeBatch L { st with ls := ls1 } kind body pays = { dev := st.dev.writes ws, ls := K30.take L ls1 body, seq := st.seq + 1, reg := st.reg } := by
    unfold writeBatch
    show St.mk (st.dev.writes (batchWs (L.ad ls1.head ls1.place) ⟨kind, st.seq + 1, 0, body⟩ pays)) _ _ _ = _
    rw [hblk, hstart, hws]
  have erd : (writeBatch L { st with ls := ls1 } kind body pays).rd = rdl (flush st.dev.seen ws) := by
    rw [est]; unfold St.rd; rw [writes_seen]
  have at_ : ∀ a x, (a, x) ∈ ws → rdl (flush st.dev.seen ws) a = some x := fun a x hx => by
    obtain ⟨i, h1, h2, _⟩ := wi a x hx
    exact flush_at ws _ a x hx (by rw [h.ok.ls, h2]; exact wlt i h1) fun y hy => wu a x y hx hy
  have not_ : ∀ a, (∀ x, (a, x) ∉ ws) → rdl (flush st.dev.seen ws) a = st.rd a := fun a hx => flush_not ws _ a hx
  have m0 : (start, b) ∈ ws := by rw [← hws]; exact batchWs_mem.mpr (.inl rfl)
  have mi : ∀ i (hi : i < pays.length), (start + (i + 1), (⟨pays[i].1, st.seq + 1, i + 1, .flat pays[i].2⟩ : Blk)) ∈ ws := fun i hi => by
    rw [← hws, ← bsq]; exact batchWs_mem.mpr (.inr ⟨i, hi, rfl⟩)
  have oldR : ∀ a, ¬ Fresh L st.ls a → rdl (flush st.dev.seen ws) a = st.rd a := fun a hf => not_ a fun x hx => by
    obtain ⟨i, h1, h2, _⟩ := wi a x hx
    exact hf (h2 ▸ wfr i h1)
  have oldP : ∀ a, Live st.ls a → payAt (rdl (flush st.dev.seen ws)) a = payAt st.rd a := fun a l => by unfold payAt; rw [oldR a (okm.fr l)]
  have oldP1 : ∀ a, Live ls1 a → payAt (rdl (flush st.dev.seen ws)) a = payAt st.rd a := fun a l => by
    refine oldP a ?_
    rcases hb with ⟨e, _⟩ | ⟨q, r, _, e2⟩
    · subst e; exact l
    · subst e2; exact l
  have newP : ∀ i (hi : i < pays.length), payAt (rdl (flush st.dev.seen ws)) (start + (i + 1)) = some pays[i] := fun i hi => by
    unfold payAt
    rw [at_ _ _ (mi i hi)]
    simp only [Body.xs]
    rw [if_pos (pk _ (List.getElem_mem hi))]
  have lowR : ∀ a, a < 2 * L.rb → rdl (flush st.dev.seen ws) a = st.rd a := fun a ha => not_ a fun x hx => by
    obtain ⟨i, h1, h2, _⟩ := wi a x hx
    have : 2 * L.rb ≤ start + i := by rw [← hstart]; exact ad_ge2
    omega
  have wwt : ∀ x ∈ ws, x.2.Wt L := fun x hx => by
    rw [← hws] at hx
    have hpay : pays.length ≤ L.pay := by unfold Lay.pay; omega
    rcases batchWs_mem.mp hx with e | ⟨j, hj, e⟩
    · rw [e]
      refine ⟨by rw [bkd]; omega, by rw [bkd]; omega, by rw [bbd, bkd]; exact bc, fun q => by rw [bkd] at q; omega, fun _ => by rw [bbd, ← hl]; exact hpay, fun i u a q => bu i u a (bbd ▸ q)⟩
    · rw [e]
      have := pk _ (List.getElem_mem hj)
      exact ⟨by show 1 ≤ pays[j].1; omega, by show pays[j].1 ≤ 5; omega, ⟨fun q => Bool.noConfusion q, fun q => by have q' : pays[j].1 = 1 := q; omega⟩, fun q => by have q' : pays[j].1 = 5 := q; omega,
        fun q => by have q' : pays[j].1 = 1 ∨ pays[j].1 = 2 := q; omega, fun _ _ _ q => by cases q⟩
  -- the history, one longer, over the device with the whole batch
  have vdur : st.dev.dark = false → Dur L { dev := { st.dev with seen := flush st.dev.seen ws, waiting := st.dev.waiting ++ ws }, ls := K30.take L ls1 body, seq := st.seq + 1, reg := st.reg } A' S' := fun hd => by
    obtain ⟨s0, m, t, hh, Ah, nums, D⟩ := h.du hd
    have hsq := D.sq
    have H' := D.hi.ext (rd' := rdl (flush st.dev.seen ws)) (ls1 := ls1) (b := b) (A' := A') (by rw [D.hm, bkd]; exact hb) (by rw [bbd]; exact fit) (by rw [bkd]; exact bk) (by rw [bsq, hsq]) brk (by rw [hstart]; exact at_ _ _ m0)
      (fun i hi => by
        rw [bbd, ← hl] at hi
        rw [hstart]
        exact ⟨_, at_ _ _ (mi i hi), pk _ (List.getElem_mem hi), by show st.seq + 1 = _; rw [hsq], rfl⟩)
      (fun a ha => not_ a fun x hx => by
        obtain ⟨i, h1, h2, _⟩ := wi a x hx
        rw [bbd, ← hl, hstart] at ha
        exact ha i h1 h2)
      (fun z => by rw [bbd]; exact hA _ z fun i hi => by rw [hstart]; exact newP i hi)
    rw [bbd] at H'
    have hold : ∀ a x, (a, x) ∈ ws → ∀ y, (a, y) ∉ st.dev.waiting := fun a x hx y hy => by
      obtain ⟨i, h1, h2, _⟩ := wi a x hx
      obtain ⟨_, p2, p3, _⟩ := D.pe a y hy
      have := D.hi.fr a y (by rw [D.hm, h2]; exact wfr i h1) p2
      have := D.t0
      omega
    refine ⟨s0, m + 1, t, _, _, nums, H', upto_at, upto_at, by show st.seq + 1 = _; omega, D.t0, by have := D.t1; omega, fun n h1 h2 => ?_, by rw [upto_le (Nat.zero_le _)]; exact D.rn, ⟨D.rg.1, fun k hk => ?_⟩, fun k hk x e => ?_, fun a x hx => ?_, fun a hx => ?_⟩
    · by_cases z : n ≤ m
      · rw [upto_le z]; exact hS _ (D.sS n z h2)
      · have : n = m + 1 := by omega
        subst this
        rw [upto_at]; exact hS' hd
    · show rdl (flush st.dev.seen ws) _ = _
      rw [lowR _ (reg_lt h.ok.rg hk)]; exact D.rg.2 k hk
    · have e2 : rdl (flush st.dev.seen ws) ((1 - st.reg) * L.rb + k) = some x := e
      rw [lowR _ (reg_lt (by omega) hk)] at e2
      exact D.ot k hk x e2
    · rcases List.mem_append.mp hx with hx | hx
      · obtain ⟨p1, p2, p3, p4⟩ := D.pe a x hx
        refine ⟨p1, ?_, p3, p4⟩
        show rdl (flush st.dev.seen ws) a = _
        rw [not_ a fun y hy => hold a y hy x hx]; exact p2
      · obtain ⟨i, h1, h2, h3⟩ := wi a x hx
        refine ⟨by rw [h2, ← hstart]; exact ad_ge2, at_ a x hx, by have := D.t1; omega, fun y hy => ?_⟩
        have hy' : rdl st.dev.sure a = some y := hy
        rw [D.sa a (hold a x hx)] at hy'
        exact D.hi.fr a y (by rw [D.hm, h2]; exact wfr i h1) hy'
    · show rdl st.dev.sure a = rdl (flush st.dev.seen ws) a
      rw [D.sa a fun x hx' => hx x (List.mem_append_left _ hx'), not_ a fun x hx' => hx x (List.mem_append_right _ hx')]
  obtain ⟨i, w1, w2⟩ := writes_wait ws st.dev
  refine ⟨⟨?_, ?_, ?_, ?_, ?_, ?_, ?_, ?_, ?_⟩, fun hd => ?_, fun hd => ?_⟩
  · rw [est]; show (st.dev.writes ws).seen.length = _; rw [writes_seen, flush_len]; exact h.ok.ls
  · rw [est]; show (st.dev.writes ws).sure.length = _; rw [writes_sure]; exact h.ok.lu
  · rw [est]; show ∀ x ∈ (st.dev.writes ws).waiting, _
    rw [w1]
    intro x hx
    rcases List.mem_append.mp hx with hx | hx
    · exact h.ok.lw x hx
    · obtain ⟨j, h1, h2, _⟩ := wi x.1 x.2 (List.mem_of_mem_take hx)
      rw [h2]; exact wlt j h1
  · rw [erd, est]
    exact ok1.take fit hhd oldP1 fun i hi => by rw [hstart, newP i (by omega)]; rfl
  · rw [erd, est]
    exact hA _ oldP1 fun i hi => by rw [hstart]; exact newP i hi
  · intro a x e
    rw [erd] at e
    rcases flush_or ws st.dev.seen a with q | ⟨y, q1, q2⟩
    · rw [q] at e; exact h.ok.ws a x e
    · rw [q2] at e; cases e; exact wwt _ q1
  · intro a x e
    rw [est] at e
    have e2 : rdl (st.dev.writes ws).sure a = some x := e
    rw [writes_sure] at e2
    exact h.ok.wu a x e2
  · rw [est]; show ∀ x ∈ (st.dev.writes ws).waiting, _
    rw [w1]
    intro x hx
    rcases List.mem_append.mp hx with hx | hx
    · exact h.ok.ww x hx
    · exact wwt x (List.mem_of_mem_take hx)
  · rw [est]; exact h.ok.rg
  · rw [est] at hd ⊢
    have hd0 : st.dev.dark = false := writes_dark_of ws st.dev hd
    obtain ⟨s0, m, t, hh, Ah, nums, D⟩ := vdur hd0
    exact ⟨s0, m, t, hh, Ah, nums, D.congr (writes_seen ws st.dev) (writes_sure ws st.dev) (by show (st.dev.writes ws).waiting = _; rw [w1, w2 hd]) rfl rfl rfl⟩
  · rw [est]
    intro kept torn
    show Good L S' (rdl (leftFrom kept torn 0 (st.dev.writes ws).sure (st.dev.writes ws).waiting))
    rw [writes_sure]
    cases hd0 : st.dev.dark with
    | true =>
      rw [(writes_dark ws st.dev hd0).2]
      exact (h.fz hd0 kept torn).mono hS
    | false =>
      obtain ⟨s0, m, t, hh, Ah, nums, D⟩ := vdur hd0
      rw [w1]
      exact D.crashW O h.ok.rg (fun x hx => by
        rcases List.mem_append.mp hx with hx | hx
        · exact List.mem_append_left _ hx
        · exact List.mem_append_right _ (List.mem_of_mem_take hx)) kept torn
/-- a barrier -/
def syncSt (st : St) : St := { st with dev := st.dev.barrier }
theorem settle_seen (d : Dev) : d.settle.seen = d.seen := by unfold Dev.settle; split <;> rfl
theorem settle_dark (d : Dev) : d.settle.dark = d.dark := by unfold Dev.settle; split <;> rfl
theorem barrier_seen (d : Dev) : d.barrier.seen = d.seen := by unfold Dev.barrier; rw [settle_seen, tick_seen]
theorem barrier_dark (d : Dev) : d.barrier.dark = d.tick.dark := settle_dark _
theorem barrier_yes (d : Dev) (h : d.tick.dark = true) : d.barrier.sure = d.sure ∧ d.barrier.waiting = d.waiting := by
  unfold Dev.barrier Dev.settle
  rw [if_pos h, tick_sure, tick_wait]; exact ⟨rfl, rfl⟩
theorem barrier_no (d : Dev) (h : d.tick.dark = false) : d.barrier.sure = flush d.sure d.waiting ∧ d.barrier.waiting = [] := by
  unfold Dev.barrier Dev.settle
  rw [if_neg (by rw [h]; exact Bool.false_ne_true), tick_sure, tick_wait]; exact ⟨rfl, rfl⟩
theorem tick_dark_of (d : Dev) (h : d.tick.dark = false) : d.dark = false := by
  cases e : d.dark with
  | false => rfl
  | true => rw [tick_dark d e] at h; cases h
theorem sure_flush {L : Lay} {st : St} {A : AS} {S : AS → Prop} {s0 m t : Nat} {h : Nat → LS} {Ah : Nat → AS} {nums : List Nat} (D : Dur1 L st A S s0 m t h Ah nums) (K : SOK L st A) (a : Nat) : rdl (flush st.dev.sure st.dev.waiting) a = st.rd a := by
  by_cases z : ∃ b, (a, b) ∈ st.dev.waiting
  · obtain ⟨b, hb⟩ := z
    have e := (D.pe a b hb).2.1
    rw [flush_at _ _ a b hb (by rw [K.lu]; exact K.lw _ hb) fun b' hb' => by
      have := (D.pe a b' hb').2.1
      rw [e] at this
      exact (Option.some.inj this).symm, e]
  · rw [flush_not _ _ a fun b hb => z ⟨b, hb⟩]
    exact D.sa a fun b hb => z ⟨b, hb⟩
theorem sync_ok {L : Lay} (O : L.Ok) {st : St} {A : AS} {S : AS → Prop} (h : SI L st A S) : SI L (syncSt st) A S ∧ ((syncSt st).dev.dark = false → SI L (syncSt st) A (fun A' => A' = A)) := by
  have erd : (syncSt st).rd = st.rd := by unfold St.rd syncSt; rw [barrier_seen]
  have ok : SOK L (syncSt st) A := by
    refine ⟨by show st.dev.barrier.seen.length = _; rw [barrier_seen]; exact h.ok.ls, ?_, ?_, by rw [erd]; exact h.ok.ok, by rw [erd]; exact h.ok.ct, by rw [erd]; exact h.ok.ws, ?_, ?_, h.ok.rg⟩
    · show st.dev.barrier.sure.length = _
      cases e : st.dev.tick.dark with
      | true => rw [(barrier_yes _ e).1]; exact h.ok.lu
      | false => rw [(barrier_no _ e).1, flush_len]; exact h.ok.lu
    · show ∀ x ∈ st.dev.barrier.waiting, _
      cases e : st.dev.tick.dark with
      | true => rw [(barrier_yes _ e).2]; exact h.ok.lw
      | false => rw [(barrier_no _ e).2]; intro x hx; cases hx
    · show ∀ a b, rdl st.dev.barrier.sure a = some b → _
      cases e : st.dev.tick.dark with
      | true => rw [(barrier_yes _ e).1]; exact h.ok.wu
      | false =>
        rw [(barrier_no _ e).1]
        intro a b q
        rcases flush_or st.dev.waiting st.dev.sure a with z | ⟨y, z1, z2⟩
        · rw [z] at q; exact h.ok.wu a b q
        · rw [z2] at q; cases q; exact h.ok.ww _ z1
    · show ∀ x ∈ st.dev.barrier.waiting, _
      cases e : st.dev.tick.dark with
      | true => rw [(barrier_yes _ e).2]; exact h.ok.ww
      | false => rw [(barrier_no _ e).2]; intro x hx; cases hx
  have tight : (syncSt st).dev.dark = false → Dur L (syncSt st) A (fun A' => A' = A) := fun hd => by
    have e : st.dev.tick.dark = false := (barrier_dark _).symm.trans hd
    obtain ⟨s0, m, t, hh, Ah, nums, D⟩ := h.du (tick_dark_of _ e)
    have hs : (syncSt st).dev.sure = flush st.dev.sure st.dev.waiting := (barrier_no _ e).1
    have hw : (syncSt st).dev.waiting = [] := (barrier_no _ e).2
    refine ⟨s0, m, s0 + m, hh, Ah, nums, erd ▸ D.hi, D.hm, D.am, D.sq, by omega, Nat.le_refl _, fun n h1 h2 => ?_, D.rn, by rw [erd]; exact D.rg, by rw [erd]; exact D.ot, fun a b hb => ?_, fun a _ => ?_⟩
    · have : n = m := by omega
      subst this
      exact D.am
    · rw [hw] at hb; cases hb
    · rw [hs, erd]; exact sure_flush D h.ok a
  have fz : (syncSt st).dev.dark = true → Frz L S (syncSt st).dev := fun hd => by
    have e : st.dev.tick.dark = true := (barrier_dark _).symm.trans hd
    intro kept torn
    have := h.crash O kept torn
    show Good L S (rdl (leftFrom kept torn 0 st.dev.barrier.sure st.dev.barrier.waiting))
    rw [(barrier_yes _ e).1, (barrier_yes _ e).2]
    exact this
  refine ⟨⟨ok, fun hd => ?_, fz⟩, fun hd => ⟨ok, tight, fun q => by rw [hd] at q; cases q⟩⟩
  obtain ⟨s0, m, t, hh, Ah, nums, D⟩ := tight hd
  have e : st.dev.tick.dark = false := (barrier_dark _).symm.trans hd
  obtain ⟨s0', m', t', hh', Ah', nums', D'⟩ := h.du (tick_dark_of _ e)
  have hSA : S A := by
    have := D'.sS m' (Nat.le_refl _) D'.t1
    rw [D'.am] at this
    exact this
  exact ⟨s0, m, t, hh, Ah, nums, D.mono fun A' z => by rw [z]; exact hSA⟩
/-- a power cut is set -/
def cutSt (st : St) (n : Nat) : St := { st with dev := st.dev.cutAfter n }
theorem cut_ok {L : Lay} {st : St} {A : AS} {S : AS → Prop} (h : SI L st A S) (n : Nat) : SI L (cutSt st n) A S := by
  have e : (cutSt st n).dev.seen = st.dev.seen ∧ (cutSt st n).dev.sure = st.dev.sure ∧ (cutSt st n).dev.waiting = st.dev.waiting ∧ (cutSt st n).dev.dark = st.dev.dark := by
    unfold cutSt Dev.cutAfter
    dsimp only
    split <;> exact ⟨rfl, rfl, rfl, rfl⟩
  obtain ⟨e1, e2, e3, e4⟩ := e
  have er : (cutSt st n).rd = st.rd := by unfold St.rd; rw [e1]
  refine ⟨⟨by rw [e1]; exact h.ok.ls, by rw [e2]; exact h.ok.lu, by rw [e3]; exact h.ok.lw, by rw [er]; exact h.ok.ok, by rw [er]; exact h.ok.ct, by rw [er]; exact h.ok.ws, by rw [e2]; exact h.ok.wu, by rw [e3]; exact h.ok.ww, h.ok.rg⟩, fun hd => ?_, fun hd => ?_⟩
  · rw [e4] at hd
    obtain ⟨s0, m, t, hh, Ah, nums, D⟩ := h.du hd
    exact ⟨s0, m, t, hh, Ah, nums, D.congr e1 e2 e3 rfl rfl rfl⟩
  · rw [e4] at hd
    intro kept torn
    have := h.fz hd kept torn
    unfold Dev.left at this ⊢
    rw [e2, e3]
    exact this
end K30

namespace K30
/-! ## M7: checkpoints, mounting -/
def segOf (L : Lay) (a : Nat) : Option Nat := if a < 2 * L.rb ∨ L.db ≤ a then none else some ((a - 2 * L.rb) / L.blks)
theorem segOf_ad {L : Lay} {g p : Nat} (hg : g < L.segs) (hp : p < L.blks) : segOf L (L.ad g p) = some g := by
  have h1 := ad_lt hg hp
  unfold segOf
  rw [if_neg (by have := ad_ge (L := L) (g := g) (p := p); omega)]
  congr 1
  unfold Lay.ad
  rw [show 2 * L.rb + g * L.blks + p - 2 * L.rb = g * L.blks + p by omega]
  exact divB hp
/-- the free segments that a checkpoint adds: some that are not busy -/
def NewFree (L : Lay) (ls : LS) (fr : List Nat) : Prop := fr.Nodup ∧ ∀ g ∈ fr, g < L.segs ∧ g ≠ ls.head ∧ g ∉ ls.queue ∧ ∀ a, Live ls a → segOf L a ≠ some g
def extQ (ls : LS) (fr : List Nat) : LS := { ls with queue := ls.queue ++ fr }
theorem extQ_ok {L : Lay} {rd : Rd} {ls : LS} {fr : List Nat} (h : LOK L rd ls) (hf : NewFree L ls fr) : LOK L rd (extQ ls fr) := by
  refine ⟨h.slen, h.tl, h.z0, ?_, fun g hg => ?_, h.pl, fun a l => ?_, h.py⟩
  · show (ls.head :: (ls.queue ++ fr)).Nodup
    have nd := List.nodup_cons.mp h.nd
    refine List.nodup_cons.mpr ⟨fun q => ?_, List.nodup_append.mpr ⟨nd.2, hf.1, fun a ha b hb e => ?_⟩⟩
    · rcases List.mem_append.mp q with q | q
      · exact nd.1 q
      · exact (hf.2 _ q).2.1 rfl
    · exact (hf.2 b hb).2.2.1 (e ▸ ha)
  · rcases List.mem_cons.mp (show g ∈ ls.head :: (ls.queue ++ fr) from hg) with q | q
    · exact h.hr g (q ▸ List.mem_cons_self)
    · rcases List.mem_append.mp q with q | q
      · exact h.hr g (List.mem_cons_of_mem _ q)
      · exact (hf.2 g q).1
  · obtain ⟨g, p, h1, h2, h3, h4, h5, h6⟩ := h.lv a l
    refine ⟨g, p, h1, h2, h3, h4, fun q => ?_, h6⟩
    rcases List.mem_append.mp (show g ∈ ls.queue ++ fr from q) with q | q
    · exact h5 q
    · exact (hf.2 g q).2.2.2 a l (by rw [h1]; exact segOf_ad h2 h4)
theorem nodup_bound {n : Nat} : ∀ {l : List Nat}, l.Nodup → (∀ x ∈ l, x < n) → l.length ≤ n := by
  induction n with
  | zero =>
    intro l _ h
    cases l with
    | nil => exact Nat.le_refl _
    | cons x l => exact absurd (h x List.mem_cons_self) (Nat.not_lt_zero x)
  | succ n ih =>
    intro l nd h
    have nd' : (l.filter fun x => decide (x ≠ n)).Nodup := nd.filter _
    have h1 := ih nd' fun x hx => by
      obtain ⟨h2, h3⟩ := List.mem_filter.mp hx
      have := h x h2
      have : x ≠ n := of_decide_eq_true h3
      omega
    have h2 : l.length ≤ (l.filter fun x => decide (x ≠ n)).length + 1 := by
      clear h1 nd' h ih
      induction l with
      | nil => exact Nat.zero_le _
      | cons x l ih =>
        obtain ⟨hx, nd⟩ := List.nodup_cons.mp nd
        by_cases e : x = n
        · subst e
          have : (l.filter fun y => decide (y ≠ x)) = l := by
            rw [List.filter_eq_self]
            intro y hy
            exact decide_eq_true fun e => hx (e ▸ hy)
          rw [List.filter_cons_of_neg (by simp), this]
          exact Nat.le_refl _
        · rw [List.filter_cons_of_pos (by simpa using e)]
          have := ih nd
          simp only [List.length_cons]
          omega
    omega
theorem LOK.qlen {L : Lay} {rd : Rd} {ls : LS} (h : LOK L rd ls) : ls.queue.length ≤ L.segs := by
  have := nodup_bound h.nd h.hr
  simp only [List.length_cons] at this
  omega
theorem LOK.ck {L : Lay} (O : L.Ok) {rd : Rd} {ls : LS} (h : LOK L rd ls) : readNums L (ckNums L ls) = some ls ∧ (ckNums L ls).length = L.rb * L.fan :=
  ⟨ck_back h.slen h.tl h.z0 h.qlen, ckNums_len O h.slen h.tl h.qlen⟩
def ckWs (L : Lay) (r s : Nat) (nums : List Nat) : List (Nat × Blk) := (List.range L.rb).map fun k => (r * L.rb + k, ⟨5, s, k, .flat (part L nums k)⟩)
theorem ckWs_mem {L : Lay} {r s : Nat} {nums : List Nat} {x : Nat × Blk} : x ∈ ckWs L r s nums ↔ ∃ k, k < L.rb ∧ x = (r * L.rb + k, ⟨5, s, k, .flat (part L nums k)⟩) := by
  unfold ckWs
  rw [List.mem_map]
  constructor
  · rintro ⟨k, hk, e⟩; exact ⟨k, List.mem_range.mp hk, e.symm⟩
  · rintro ⟨k, hk, e⟩; exact ⟨k, List.mem_range.mpr hk, e.symm⟩
theorem ckWs_u {L : Lay} {r s a : Nat} {nums : List Nat} {x y : Blk} (h : (a, x) ∈ ckWs L r s nums) (h' : (a, y) ∈ ckWs L r s nums) : y = x := by
  obtain ⟨k, hk, e⟩ := ckWs_mem.mp h
  obtain ⟨k', hk', e'⟩ := ckWs_mem.mp h'
  injection e with e1 e2
  injection e' with e3 e4
  obtain ⟨_, ek⟩ := reg_ne hk hk' (e1.symm.trans e3)
  subst ek
  rw [e2, e4]
def checkpoint (L : Lay) (fr : List Nat) (st : St) : St :=
  { dev := (st.dev.barrier.writes (ckWs L (1 - st.reg) (st.seq + 1) (ckNums L (extQ st.ls fr)))).barrier, ls := extQ st.ls fr, seq := st.seq + 1, reg := 1 - st.reg }
theorem db_ge {L : Lay} {r k : Nat} (hr : r < 2) (hk : k < L.rb) : r * L.rb + k < L.db := by
  have := reg_lt hr hk
  unfold Lay.db; omega
/-- what stands behind a checkpoint's writes -/
theorem ck_seen {L : Lay} {l : List (Option Blk)} {r s : Nat} {nums : List Nat} (hl : l.length = L.db) (hr : r < 2) :
    (∀ k, k < L.rb → rdl (flush l (ckWs L r s nums)) (r * L.rb + k) = some ⟨5, s, k, .flat (part L nums k)⟩) ∧ (∀ a, (∀ k, k < L.rb → a ≠ r * L.rb + k) → rdl (flush l (ckWs L r s nums)) a = rdl l a) := by
  refine ⟨fun k hk => ?_, fun a ha => ?_⟩
  · exact flush_at _ _ _ _ (ckWs_mem.mpr ⟨k, hk, rfl⟩) (by rw [hl]; exact db_ge hr hk) fun b' hb' => ckWs_u (ckWs_mem.mpr ⟨k, hk, rfl⟩) hb'
  · refine flush_not _ _ _ fun b hb => ?_
    obtain ⟨k, hk, e⟩ := ckWs_mem.mp hb
    injection e with e1 _
    exact ha k hk e1
/-- the durable facts of a state just behind a whole checkpoint -/
theorem ck_done {L : Lay} (O : L.Ok) {st : St} {l : List (Option Blk)} {ls1 : LS} {s r : Nat} (hl : l.length = L.db) (hr : r < 2) (h1 : st.dev.seen = flush l (ckWs L r s (ckNums L ls1))) (h2 : ∀ a, rdl st.dev.sure a = rdl st.dev.seen a) (h3 : st.dev.waiting = [])
    (h4 : st.ls = ls1) (h5 : st.seq = s) (h6 : st.reg = r) (ok : LOK L (rdl l) ls1) (sq : ∀ a b, rdl l a = some b → b.seq < s) : Dur L st (contL (rdl l) ls1) (fun A => A = contL (rdl l) ls1) := by
  obtain ⟨c1, c2⟩ := ck_seen (s := s) (nums := ckNums L ls1) hl hr
  have er : st.rd = rdl (flush l (ckWs L r s (ckNums L ls1))) := by unfold St.rd; rw [h1]
  have seg : ∀ a, 2 * L.rb ≤ a → st.rd a = rdl l a := fun a ha => by
    rw [er]
    exact c2 a fun k hk e => by have := reg_lt hr hk; omega
  have sp : ∀ a, Live ls1 a → payAt st.rd a = payAt (rdl l) a := fun a l => by unfold payAt; rw [seg a (live_ge ok l)]
  have ok' : LOK L st.rd ls1 := ok.mono sp
  obtain ⟨n1, n2⟩ := ok.ck O
  refine ⟨s, 0, s, fun _ => ls1, fun _ => contL (rdl l) ls1, ckNums L ls1, ?_, h4.symm, rfl, h5, Nat.le_refl _, Nat.le_refl _, fun _ _ _ => rfl, n1, ⟨n2, fun k hk => by rw [er, h6]; exact c1 k hk⟩, fun k hk b e => ?_, fun a b hb => ?_, fun a _ => h2 a⟩
  · have := Hist.new ok' (s0 := s) fun a b ha e => by
      rw [seg a ha] at e
      exact Nat.le_of_lt (sq a b e)
    rw [contL_congr sp] at this
    exact this
  · rw [er, h6] at e
    rw [c2 _ fun k' hk' q => by
      obtain ⟨q1, _⟩ := reg_ne hk hk' q
      omega] at e
    exact sq _ b e
  · rw [h3] at hb; cases hb
theorem leftFrom_reg {L : Lay} {kept torn : List Nat} {l : List (Option Blk)} {r s i : Nat} {nums : List Nat} :
    (∀ a, (∀ k, k < L.rb → a ≠ r * L.rb + k) → rdl (leftFrom kept torn 0 l ((ckWs L r s nums).take i)) a = rdl l a) ∧
    ∀ k, k < L.rb → ∀ b, rdl (leftFrom kept torn 0 l ((ckWs L r s nums).take i)) (r * L.rb + k) = some b → rdl l (r * L.rb + k) = some b ∨ b = ⟨5, s, k, .flat (part L nums k)⟩ := by
  refine ⟨fun a ha => ?_, fun k hk b e => ?_⟩
  · rcases leftFrom_or (kept := kept) (torn := torn) ((ckWs L r s nums).take i) 0 l a with q | ⟨b, hb, _⟩
    · exact q
    · obtain ⟨k, hk, e⟩ := ckWs_mem.mp (List.mem_of_mem_take hb)
      injection e with e1 _
      exact absurd e1 (ha k hk)
  · rcases leftFrom_or (kept := kept) (torn := torn) ((ckWs L r s nums).take i) 0 l (r * L.rb + k) with q | ⟨b', hb, q⟩
    · exact .inl (q ▸ e)
    · rcases q with q | q
      · rw [q] at e; cases e
      · rw [q] at e
        cases e
        obtain ⟨k', hk', e2⟩ := ckWs_mem.mp (List.mem_of_mem_take hb)
        injection e2 with e3 e4
        obtain ⟨_, ek⟩ := reg_ne hk hk' e3
        subst ek
        exact .inr e4
theorem Hist.seqs {L : Lay} {st : St} {A : AS} {S : AS → Prop} {s0 m t : Nat} {h : Nat → LS} {Ah : Nat → AS} {nums : List Nat} (D : Dur1 L st A S s0 m t h Ah nums) (hr : st.reg < 2) (a : Nat) (b : Blk) (e : st.rd a = some b) : b.seq < st.seq + 1 := by
  have hs := D.sq
  by_cases ha : 2 * L.rb ≤ a
  · have := D.hi.sq a b ha e; omega
  · by_cases h1 : a < L.rb
    · have hcase : st.reg = 0 ∨ st.reg = 1 := by omega
      rcases hcase with q | q
      · have := D.rg.2 a h1
        rw [q, Nat.zero_mul, Nat.zero_add, e] at this
        cases this
        show s0 < st.seq + 1
        omega
      · have := D.ot a h1 b (by rw [q]; simpa using e)
        omega
    · have hcase : st.reg = 0 ∨ st.reg = 1 := by omega
      have hk : a - L.rb < L.rb := by omega
      rcases hcase with q | q
      · have := D.ot (a - L.rb) hk b (by rw [q, show (1 - 0) * L.rb + (a - L.rb) = a by omega]; exact e)
        omega
      · have := D.rg.2 (a - L.rb) hk
        rw [q, show 1 * L.rb + (a - L.rb) = a by omega, e] at this
        cases this
        show s0 < st.seq + 1
        omega
theorem ck_sok {L : Lay} (O : L.Ok) {st : St} {A : AS} {fr : List Nat} (h : SOK L st A) (hf : NewFree L st.ls fr) : SOK L (checkpoint L fr st) A := by
  generalize hws : ckWs L (1 - st.reg) (st.seq + 1) (ckNums L (extQ st.ls fr)) = ws
  have est : checkpoint L fr st = { dev := (st.dev.barrier.writes ws).barrier, ls := extQ st.ls fr, seq := st.seq + 1, reg := 1 - st.reg } := by unfold checkpoint; rw [hws]
  have eseen : (checkpoint L fr st).dev.seen = flush st.dev.seen ws := by
    rw [est]; show (st.dev.barrier.writes ws).barrier.seen = _
    rw [barrier_seen, writes_seen, barrier_seen]
  have er : (checkpoint L fr st).rd = rdl (flush st.dev.seen ws) := by unfold St.rd; rw [eseen]
  have hr : 1 - st.reg < 2 := by omega
  have c := ck_seen (s := st.seq + 1) (nums := ckNums L (extQ st.ls fr)) h.ls hr
  rw [hws] at c
  have seg : ∀ a, 2 * L.rb ≤ a → (checkpoint L fr st).rd a = st.rd a := fun a ha => by
    rw [er]
    exact c.2 a fun k hk e => by have := reg_lt hr hk; omega
  have ok1 := extQ_ok h.ok hf
  have sp : ∀ a, Live (extQ st.ls fr) a → payAt (checkpoint L fr st).rd a = payAt st.rd a := fun a l => by unfold payAt; rw [seg a (live_ge ok1 l)]
  have wwt : ∀ x ∈ ws, x.1 < L.db ∧ x.2.Wt L := fun x hx => by
    rw [← hws] at hx
    obtain ⟨k, hk, e⟩ := ckWs_mem.mp hx
    rw [e]
    exact ⟨db_ge hr hk, by show 1 ≤ 5; omega, by show 5 ≤ 5; omega, ⟨fun q => Bool.noConfusion q, fun q => by have q' : (5 : Nat) = 1 := q; omega⟩, fun _ => part_len (ok1.ck O).2 hk, fun q => by have q' : (5 : Nat) = 1 ∨ (5 : Nat) = 2 := q; omega, fun _ _ _ q => by cases q⟩
  -- sure and waiting of any device behind a barrier, some writes
  have bar : ∀ d : Dev, d.sure.length = L.db → (∀ x ∈ d.waiting, x.1 < L.db ∧ x.2.Wt L) → (∀ a b, rdl d.sure a = some b → b.Wt L) →
      d.barrier.sure.length = L.db ∧ (∀ x ∈ d.barrier.waiting, x.1 < L.db ∧ x.2.Wt L) ∧ ∀ a b, rdl d.barrier.sure a = some b → b.Wt L := fun d d1 d2 d3 => by
    cases e : d.tick.dark with
    | true => rw [(barrier_yes _ e).1, (barrier_yes _ e).2]; exact ⟨d1, d2, d3⟩
    | false =>
      rw [(barrier_no _ e).1, (barrier_no _ e).2, flush_len]
      refine ⟨d1, fun x hx => (by cases hx), fun a b q => ?_⟩
      rcases flush_or d.waiting d.sure a with z | ⟨y, z1, z2⟩
      · rw [z] at q; exact d3 a b q
      · rw [z2] at q; cases q; exact (d2 _ z1).2
  obtain ⟨b1, b2, b3⟩ := bar st.dev h.lu (fun x hx => ⟨h.lw x hx, h.ww x hx⟩) h.wu
  obtain ⟨i, w1, _⟩ := writes_wait ws st.dev.barrier
  obtain ⟨e1, e2, e3⟩ := bar (st.dev.barrier.writes ws) (by rw [writes_sure]; exact b1) (by
    rw [w1]
    intro x hx
    rcases List.mem_append.mp hx with hx | hx
    · exact b2 x hx
    · exact wwt x (List.mem_of_mem_take hx)) (by rw [writes_sure]; exact b3)
  refine ⟨by rw [eseen, flush_len]; exact h.ls, ?_, ?_, by rw [est] at sp ⊢; exact ok1.mono sp, ?_, fun a b e => ?_, ?_, ?_, ?_⟩
  · rw [est]; exact e1
  · rw [est]; exact fun x hx => (e2 x hx).1
  · have := contL_congr (ls := extQ st.ls fr) sp
    rw [est] at this ⊢
    rw [this]
    exact h.ct
  · rw [er] at e
    rcases flush_or ws st.dev.seen a with q | ⟨y, q1, q2⟩
    · rw [q] at e; exact h.ws a b e
    · rw [q2] at e; cases e; exact (wwt _ q1).2
  · rw [est]; exact e3
  · rw [est]; exact fun x hx => (e2 x hx).2
  · rw [est]; exact hr
theorem ck_ok {L : Lay} (O : L.Ok) {st : St} {A : AS} {S : AS → Prop} {fr : List Nat} (h : SI L st A S) (hf : NewFree L st.ls fr) :
    SI L (checkpoint L fr st) A S ∧ ((checkpoint L fr st).dev.dark = false → SI L (checkpoint L fr st) A (fun A' => A' = A)) := by
  have sok := ck_sok O h.ok hf
  obtain ⟨sy1, sy2⟩ := sync_ok O h
  generalize hws : ckWs L (1 - st.reg) (st.seq + 1) (ckNums L (extQ st.ls fr)) = ws
  have est : checkpoint L fr st = { dev := (st.dev.barrier.writes ws).barrier, ls := extQ st.ls fr, seq := st.seq + 1, reg := 1 - st.reg } := by unfold checkpoint; rw [hws]
  have eA : contL st.rd (extQ st.ls fr) = A := h.ok.ct
  have ok1 := extQ_ok h.ok.ok hf
  have hr : 1 - st.reg < 2 := by omega
  have tight : (checkpoint L fr st).dev.dark = false → Dur L (checkpoint L fr st) A (fun A' => A' = A) := fun hd => by
    rw [est] at hd
    have hd' : (st.dev.barrier.writes ws).barrier.dark = false := hd
    have t2 : (st.dev.barrier.writes ws).tick.dark = false := (barrier_dark _).symm.trans hd'
    have hd1 := tick_dark_of _ t2
    have hdb : st.dev.barrier.dark = false := writes_dark_of ws _ hd1
    have t1 : st.dev.tick.dark = false := (barrier_dark _).symm.trans hdb
    obtain ⟨s0, m, t, hh, Ah, nums, D⟩ := h.du (tick_dark_of _ t1)
    obtain ⟨i, w1, w2⟩ := writes_wait ws st.dev.barrier
    rw [(barrier_no _ t1).2, List.nil_append, w2 hd1] at w1
    have key := ck_done O (st := checkpoint L fr st) (l := st.dev.seen) (ls1 := extQ st.ls fr) (s := st.seq + 1) (r := 1 - st.reg) h.ok.ls hr
      (by rw [est, hws]; show (st.dev.barrier.writes ws).barrier.seen = _; rw [barrier_seen, writes_seen, barrier_seen])
      (fun a => by
        rw [est]
        show rdl (st.dev.barrier.writes ws).barrier.sure a = rdl (st.dev.barrier.writes ws).barrier.seen a
        rw [(barrier_no _ t2).1, barrier_seen, w1, writes_sure, writes_seen, barrier_seen, (barrier_no _ t1).1, ← flush_append]
        rw [flush_append]
        rcases flush_or ws st.dev.seen a with q | ⟨y, q1, q2⟩
        · by_cases z : ∃ b, (a, b) ∈ ws
          · obtain ⟨b, hb⟩ := z
            have hlt : a < L.db := by
              rw [← hws] at hb
              obtain ⟨k, hk, e⟩ := ckWs_mem.mp hb
              injection e with e1 _
              rw [e1]; exact db_ge hr hk
            have hu : ∀ b', (a, b') ∈ ws → b' = b := fun b' hb' => by rw [← hws] at hb hb'; exact ckWs_u hb hb'
            rw [flush_at ws _ a b hb (by rw [flush_len, h.ok.lu]; exact hlt) hu, flush_at ws _ a b hb (by rw [h.ok.ls]; exact hlt) hu]
          · rw [flush_not ws _ a fun b hb => z ⟨b, hb⟩, flush_not ws _ a fun b hb => z ⟨b, hb⟩]
            exact sure_flush D h.ok a
        · have hlt : a < L.db := by
            rw [← hws] at q1
            obtain ⟨k, hk, e⟩ := ckWs_mem.mp q1
            injection e with e1 _
            rw [e1]; exact db_ge hr hk
          have hu : ∀ b', (a, b') ∈ ws → b' = y := fun b' hb' => by rw [← hws] at q1 hb'; exact ckWs_u q1 hb'
          rw [flush_at ws _ a y q1 (by rw [flush_len, h.ok.lu]; exact hlt) hu, q2])
      (by rw [est]; exact (barrier_no _ t2).2) (by rw [est]) (by rw [est]) (by rw [est]) ok1 (fun a b e => Hist.seqs D h.ok.rg a b e)
    have eA' : contL (rdl st.dev.seen) (extQ st.ls fr) = A := eA
    rw [eA'] at key
    exact key
  have fz : (checkpoint L fr st).dev.dark = true → Frz L S (checkpoint L fr st).dev := fun hd => by
    intro kept torn
    rw [est] at hd ⊢
    have hd' : (st.dev.barrier.writes ws).barrier.dark = true := hd
    show Good L S (rdl (leftFrom kept torn 0 (st.dev.barrier.writes ws).barrier.sure (st.dev.barrier.writes ws).barrier.waiting))
    rw [barrier_dark] at hd'
    rw [(barrier_yes _ hd').1, (barrier_yes _ hd').2, writes_sure]
    cases hdb : st.dev.barrier.dark with
    | true =>
      rw [(writes_dark ws _ hdb).2]
      exact sy1.fz hdb kept torn
    | false =>
      obtain ⟨s0, m, t, hh, Ah, nums, D⟩ := sy1.du hdb
      have t1 : st.dev.tick.dark = false := (barrier_dark _).symm.trans hdb
      obtain ⟨i, w1, _⟩ := writes_wait ws st.dev.barrier
      rw [(barrier_no _ t1).2, List.nil_append] at w1
      rw [w1, ← hws]
      obtain ⟨l1, l2⟩ := leftFrom_reg (L := L) (kept := kept) (torn := torn) (l := st.dev.barrier.sure) (r := 1 - st.reg) (s := st.seq + 1) (i := i) (nums := ckNums L (extQ st.ls fr))
      have eR : (syncSt st).rd = st.rd := by unfold St.rd syncSt; rw [barrier_seen]
      have sEq : ∀ a, rdl st.dev.barrier.sure a = st.rd a := fun a => by
        rw [← eR]
        exact D.sa a fun b hb => by
          have hw : (syncSt st).dev.waiting = [] := (barrier_no _ t1).2
          rw [hw] at hb; cases hb
      have hD := D.hi
      have hDr := D.rg
      have hDo := D.ot
      rw [eR] at hD hDr hDo
      have eSq : st.seq = s0 + m := D.sq
      obtain ⟨n1, n2⟩ := ok1.ck O
      refine crash2 O (ls1 := extQ st.ls fr) (s1 := st.seq + 1) (nums := nums) hD (fun a ha => ?_) h.ok.rg ⟨hDr.1, fun k hk => ?_⟩ D.rn (by omega) n1 n2 ok1 (by rw [eA, D.am]) (fun k hk b e => ?_) ?_
      · rw [l1 a fun k hk e => by have := reg_lt hr hk; omega]; exact sEq a
      · rw [l1 _ fun k' hk' q => by
          obtain ⟨q1, _⟩ := reg_ne hk hk' q
          have := h.ok.rg
          omega, sEq]
        exact hDr.2 k hk
      · rcases l2 k hk b e with q | q
        · rw [sEq] at q
          exact .inl (hDo k hk b q)
        · exact .inr q
      · exact D.sS m (Nat.le_refl _) D.t1
  refine ⟨⟨sok, fun hd => ?_, fz⟩, fun hd => ⟨sok, tight, fun q => by rw [hd] at q; cases q⟩⟩
  obtain ⟨s0, m, t, hh, Ah, nums, D⟩ := tight hd
  have hSA : S A := by
    rw [est] at hd
    have hd' : (st.dev.barrier.writes ws).barrier.dark = false := hd
    have t2 : (st.dev.barrier.writes ws).tick.dark = false := (barrier_dark _).symm.trans hd'
    have hdb : st.dev.barrier.dark = false := writes_dark_of ws _ (tick_dark_of _ t2)
    obtain ⟨s0', m', t', hh', Ah', nums', D'⟩ := sy1.du hdb
    have := D'.sS m' (Nat.le_refl _) D'.t1
    rw [D'.am] at this
    exact this
  exact ⟨s0, m, t, hh, Ah, nums, D.mono fun A' z => by rw [z]; exact hSA⟩
/-- a checkpoint on a device just made -/
theorem ck_fresh {L : Lay} (O : L.Ok) {l : List (Option Blk)} {ls : LS} {s r : Nat} {fr : List Nat} (hl : l.length = L.db) (ok : LOK L (rdl l) ls) (sq : ∀ a b, rdl l a = some b → b.seq ≤ s) (wt : ∀ a b, rdl l a = some b → b.Wt L) (hr : r < 2)
    (hf : NewFree L ls fr) : SI L (checkpoint L fr ⟨Dev.new l, ls, s, r⟩) (contL (rdl l) ls) (fun A => A = contL (rdl l) ls) ∧ (checkpoint L fr ⟨Dev.new l, ls, s, r⟩).dev.dark = false := by
  have h : SOK L ⟨Dev.new l, ls, s, r⟩ (contL (rdl l) ls) := ⟨hl, hl, fun x hx => (nomatch hx), ok, rfl, wt, wt, fun x hx => (nomatch hx), hr⟩
  have sok := ck_sok O h hf
  have ntick : ∀ d : Dev, d.fuse = none → d.tick = d := fun d e => by unfold Dev.tick; rw [e]
  have nw : ∀ (ws : List (Nat × Blk)) (d : Dev), d.fuse = none → d.dark = false → (d.writes ws).fuse = none ∧ (d.writes ws).dark = false ∧ (d.writes ws).waiting = d.waiting ++ ws := by
    intro ws
    induction ws with
    | nil => intro d e1 e2; exact ⟨e1, e2, by simp [Dev.writes]⟩
    | cons w ws ih =>
      intro d e1 e2
      have f1 : (d.write w.1 w.2).fuse = none := by unfold Dev.write; rw [ntick d e1]; exact e1
      have f2 : (d.write w.1 w.2).dark = false := by rw [write_dark, ntick d e1]; exact e2
      obtain ⟨g1, g2, g3⟩ := ih _ f1 f2
      refine ⟨g1, g2, ?_⟩
      unfold Dev.writes
      rw [g3, write_wait, ntick d e1, e2, if_neg Bool.false_ne_true, List.append_assoc]
      rfl
  generalize hws : ckWs L (1 - r) (s + 1) (ckNums L (extQ ls fr)) = ws
  have hb : (Dev.new l).barrier = Dev.new l := by
    unfold Dev.barrier
    rw [ntick _ rfl]
    rfl
  obtain ⟨f1, f2, f3⟩ := nw ws (Dev.new l) rfl rfl
  have est : checkpoint L fr ⟨Dev.new l, ls, s, r⟩ = { dev := ((Dev.new l).writes ws).barrier, ls := extQ ls fr, seq := s + 1, reg := 1 - r } := by
    unfold checkpoint
    dsimp only
    rw [hb, hws]
  have t2 : ((Dev.new l).writes ws).tick.dark = false := by rw [ntick _ f1]; exact f2
  have hdk : (checkpoint L fr ⟨Dev.new l, ls, s, r⟩).dev.dark = false := by rw [est]; show ((Dev.new l).writes ws).barrier.dark = _; rw [barrier_dark]; exact t2
  refine ⟨⟨sok, fun _ => ?_, fun q => by rw [hdk] at q; cases q⟩, hdk⟩
  have key := ck_done O (st := checkpoint L fr ⟨Dev.new l, ls, s, r⟩) (l := l) (ls1 := extQ ls fr) (s := s + 1) (r := 1 - r) hl (by omega)
    (by rw [est, hws]; show ((Dev.new l).writes ws).barrier.seen = _; rw [barrier_seen, writes_seen]; rfl)
    (fun a => by
      rw [est]
      show rdl ((Dev.new l).writes ws).barrier.sure a = rdl ((Dev.new l).writes ws).barrier.seen a
      rw [(barrier_no _ t2).1, barrier_seen, writes_sure, writes_seen, f3]
      rfl)
    (by rw [est]; exact (barrier_no _ t2).2) (by rw [est]) (by rw [est]) (by rw [est]) (extQ_ok ok hf) (fun a b e => Nat.lt_succ_of_le (sq a b e))
  exact key
end K30

namespace K30
/-! ## M8: the program's operations -/
def appendCommit (L : Lay) (st : St) (ids : List Nat) (pays : List Pay) (used : List Nat) (act : Nat) : Option St :=
  if L.blks < st.ls.place + (1 + ids.length) then
    if st.ls.queue = [] ∨ L.blks < 1 + ids.length then none else some (writeBatch L (enterSt st) 1 (.com ids used act) pays)
  else some (writeBatch L st 1 (.com ids used act) pays)
theorem commit_ok {L : Lay} (O : L.Ok) {st st' : St} {A : AS} {S S' : AS → Prop} {ids used : List Nat} {pays : List Pay} {act : Nat} (h : SI L st A S) (hl : pays.length = ids.length) (pk : ∀ p ∈ pays, p.1 = 3 ∨ p.1 = 4)
    (nd : ids.Nodup) (hi : ∀ k ∈ ids, 0 < k) (hu : ∀ k ∈ used, 0 < k ∧ k ≤ L.lastId) (ha : act ≤ 6) (hu2 : used.length ≤ 1000) (e : appendCommit L st ids pays used act = some st') (hS : ∀ A, S A → S' A) (hS' : st.dev.dark = false → S' (afterA A ids pays used act)) :
    SI L st' (afterA A ids pays used act) S' := by
  have hp : st.ls.present.length = L.lastId + 1 := h.ok.ok.tl _ tabs_p
  unfold appendCommit at e
  by_cases c : L.blks < st.ls.place + (1 + ids.length)
  · rw [if_pos c] at e
    by_cases c2 : st.ls.queue = [] ∨ L.blks < 1 + ids.length
    · rw [if_pos c2] at e; cases e
    · rw [if_neg c2] at e
      cases e
      obtain ⟨q, r, eq⟩ : ∃ q r, st.ls.queue = q :: r := by
        cases eq : st.ls.queue with
        | nil => exact absurd (.inl eq) c2
        | cons q r => exact ⟨q, r, rfl⟩
      obtain ⟨ok1, eh, eq1, ep⟩ := h.ok.ok.enter eq
      refine batch_ok O h (ls1 := K30.enter st.ls) (kind := 1) (body := .com ids used act) (.inr ⟨q, r, eq, rfl⟩) hl (by rw [ep]; show 0 + ids.length < _; have : ¬ L.blks < 1 + ids.length := fun z => c2 (.inr z); omega) (.inl rfl) ⟨fun _ => rfl, fun _ => rfl⟩ (fun _ _ _ q => by cases q; exact ⟨ha, hu2⟩) pk (fun rd' z1 z2 => ?_) hS hS'
      rw [contL_com (rd := st.rd) (ls := K30.enter st.ls) z1 hl z2 nd hi (fun k hk => by have := hu k hk; exact ⟨this.1, by show k < st.ls.present.length; omega⟩) ha]
      rw [show contL st.rd (K30.enter st.ls) = A from h.ok.ct]
  · rw [if_neg c] at e
    cases e
    refine batch_ok O h (ls1 := st.ls) (kind := 1) (body := .com ids used act) (.inl ⟨rfl, rfl⟩) hl (by show st.ls.place + ids.length < _; omega) (.inl rfl) ⟨fun _ => rfl, fun _ => rfl⟩ (fun _ _ _ q => by cases q; exact ⟨ha, hu2⟩) pk (fun rd' z1 z2 => ?_) hS hS'
    rw [contL_com (rd := st.rd) (ls := st.ls) z1 hl z2 nd hi (fun k hk => by have := hu k hk; exact ⟨this.1, by omega⟩) ha, h.ok.ct]
def paysAt (rd : Rd) : List Nat → Option (List Pay)
  | [] => some []
  | a :: r => match payAt rd a, paysAt rd r with
    | some p, some ps => some (p :: ps)
    | _, _ => none
theorem paysAt_ok {rd : Rd} : ∀ {as : List Nat} {ps : List Pay}, paysAt rd as = some ps → ps.length = as.length ∧ (∀ i (h : i < as.length) (h' : i < ps.length), payAt rd as[i] = some ps[i]) ∧ ∀ p ∈ ps, p.1 = 3 ∨ p.1 = 4
  | [], ps, h => by
    cases h
    exact ⟨rfl, fun i h => absurd h (Nat.not_lt_zero i), fun p hp => by cases hp⟩
  | a :: r, ps, h => by
    unfold paysAt at h
    cases e1 : payAt rd a with
    | none => rw [e1] at h; cases h
    | some p =>
      cases e2 : paysAt rd r with
      | none => rw [e1, e2] at h; cases h
      | some qs =>
        rw [e1, e2] at h
        cases h
        obtain ⟨h1, h2, h3⟩ := paysAt_ok e2
        refine ⟨by simp [h1], fun i hi hi' => ?_, fun q hq => ?_⟩
        · cases i with
          | zero => exact e1
          | succ i => exact h2 i (by simpa using hi) (by simpa using hi')
        · rcases List.mem_cons.mp hq with e | hq
          · rw [e]
            unfold payAt at e1
            cases e3 : rd a with
            | none => rw [e3] at e1; cases e1
            | some b =>
              rw [e3] at e1
              by_cases k : b.kind = 3 ∨ b.kind = 4
              · simp [k] at e1
                rw [← e1]; exact k
              · simp [k] at e1
          · exact h3 q hq
def appendMove (L : Lay) (st : St) (as : List Nat) : Option St :=
  if st.ls.queue = [] ∨ L.pay < as.length then none else match paysAt st.rd as with
    | none => none
    | some ps => some (writeBatch L (enterSt st) 2 (.flat as) ps)
theorem move_ok {L : Lay} (O : L.Ok) {st st' : St} {A : AS} {S : AS → Prop} {as : List Nat} (h : SI L st A S) (e : appendMove L st as = some st') : SI L st' A S := by
  unfold appendMove at e
  by_cases c : st.ls.queue = [] ∨ L.pay < as.length
  · rw [if_pos c] at e; cases e
  · rw [if_neg c] at e
    cases e1 : paysAt st.rd as with
    | none => rw [e1] at e; cases e
    | some ps =>
      rw [e1] at e
      cases e
      obtain ⟨p1, p2, p3⟩ := paysAt_ok e1
      obtain ⟨q, r, eq⟩ : ∃ q r, st.ls.queue = q :: r := by
        cases eq : st.ls.queue with
        | nil => exact absurd (.inl eq) c
        | cons q r => exact ⟨q, r, rfl⟩
      obtain ⟨ok1, eh, eq1, ep⟩ := h.ok.ok.enter eq
      have hfit : (K30.enter st.ls).place + (Body.flat as).cnt < L.blks := by
        rw [ep]; show 0 + as.length < _
        have : ¬ L.pay < as.length := fun z => c (.inr z)
        have := O.b16
        unfold Lay.pay at *
        omega
      have hSA : st.dev.dark = false → S A := fun hd => by
        obtain ⟨s0, m, t, hh, Ah, nums, D⟩ := h.du hd
        have := D.sS m (Nat.le_refl _) D.t1
        rw [D.am] at this
        exact this
      refine batch_ok O h (ls1 := K30.enter st.ls) (kind := 2) (body := .flat as) (.inr ⟨q, r, eq, rfl⟩) p1 hfit (.inr rfl) ⟨fun q => Bool.noConfusion q, fun q => by have q' : (2 : Nat) = 1 := q; omega⟩ (fun _ _ _ q => by cases q) p3 (fun rd' z1 z2 => ?_) (fun _ z => z) hSA
      rw [contL_move (rd := st.rd) (ls := K30.enter st.ls) z1 fun i hi => ?_]
      · exact h.ok.ct
      · rw [z2 i (by omega), p2 i hi (by omega)]
def Tight (L : Lay) (st : St) (A : AS) (S : AS → Prop) : Prop := SI L st A S ∧ (st.dev.dark = false → SI L st A (fun A' => A' = A))
theorem ck_tight {L : Lay} (O : L.Ok) {st : St} {A : AS} {S : AS → Prop} {fr : List Nat} (h : SI L st A S) (hf : NewFree L st.ls fr) : Tight L (checkpoint L fr st) A S := ck_ok O h hf
/-- a filling, done or not -/
def Fill (L : Lay) (st st' : St) (b : Bool) : Prop := (b = false ∧ st' = st) ∨ (b = true ∧ ∃ as st1 fr, appendMove L st as = some st1 ∧ NewFree L st1.ls fr ∧ st' = checkpoint L fr st1)
theorem fill_ok {L : Lay} (O : L.Ok) {st st' : St} {A : AS} {S : AS → Prop} {b : Bool} (h : SI L st A S) (hf : Fill L st st' b) : SI L st' A S ∧ (b = true → Tight L st' A S) := by
  rcases hf with ⟨rfl, rfl⟩ | ⟨rfl, as, st1, fr, e, nf, rfl⟩
  · exact ⟨h, fun q => Bool.noConfusion q⟩
  · have t := ck_tight O (move_ok O h e) nf
    exact ⟨t.1, fun _ => t⟩
theorem fill_tight {L : Lay} (O : L.Ok) {st st' : St} {A : AS} {S : AS → Prop} {b : Bool} (h : Tight L st A S) (hf : Fill L st st' b) : Tight L st' A S := by
  rcases hf with ⟨rfl, rfl⟩ | ⟨rfl, as, st1, fr, e, nf, rfl⟩
  · exact h
  · exact ck_tight O (move_ok O h.1 e) nf
/-- some fillings, one after another -/
inductive Fills (L : Lay) : St → St → Prop
  | nil (st : St) : Fills L st st
  | cons {st st1 st2 : St} {b : Bool} : Fill L st st1 b → Fills L st1 st2 → Fills L st st2
theorem fills_tight {L : Lay} (O : L.Ok) {st st' : St} {A : AS} {S : AS → Prop} (h : Tight L st A S) (hf : Fills L st st') : Tight L st' A S := by
  induction hf with
  | nil => exact h
  | cons a _ ih => exact ih (fill_tight O h a)
/-- making room: nothing, or a checkpoint and some fillings -/
def Room (L : Lay) (st st' : St) : Prop := st' = st ∨ ∃ fr, NewFree L st.ls fr ∧ Fills L (checkpoint L fr st) st'
theorem room_ok {L : Lay} (O : L.Ok) {st st' : St} {A : AS} {S : AS → Prop} (h : SI L st A S) (hf : Room L st st') : SI L st' A S := by
  rcases hf with rfl | ⟨fr, nf, hf⟩
  · exact h
  · exact (fills_tight O (ck_tight O h nf) hf).1
/-! ### new logs, mounted logs -/
def newLS (L : Lay) : LS := ⟨List.replicate (L.lastId + 1) 0, [none, none, none], 0, 0, (List.range (L.segs - 1)).map (· + 1)⟩
theorem newLS_live {L : Lay} {a : Nat} : ¬ Live (newLS L) a := by
  rintro ⟨h0, t, ht, hm⟩
  rcases tabs_of ht with rfl | ht
  · exact h0 (List.eq_of_mem_replicate hm)
  · have ht' : some t ∈ [none, none, (none : Option (List Nat))] := ht
    simp at ht'
theorem newLS_ok {L : Lay} (O : L.Ok) {rd : Rd} : LOK L rd (newLS L) := by
  have tb : ∀ t ∈ tabs (newLS L), t = List.replicate (L.lastId + 1) 0 := fun t ht => by
    rcases tabs_of ht with rfl | ht
    · rfl
    · have ht' : some t ∈ [none, none, (none : Option (List Nat))] := ht
      simp at ht'
  refine ⟨rfl, fun t ht => by rw [tb t ht]; simp, fun t ht => by rw [tb t ht, getD_lt (by simp)]; simp, ?_, fun g hg => ?_, Nat.zero_le _, fun a l => absurd l newLS_live, fun a l => absurd l newLS_live⟩
  · show (0 :: (List.range (L.segs - 1)).map (· + 1)).Nodup
    refine List.nodup_cons.mpr ⟨fun h => ?_, ?_⟩
    · obtain ⟨k, _, e⟩ := List.mem_map.mp h
      omega
    · exact List.Pairwise.map _ (fun a b h => by omega) List.nodup_range
  · have := O.s4
    rcases List.mem_cons.mp (show g ∈ 0 :: (List.range (L.segs - 1)).map (· + 1) from hg) with e | h
    · omega
    · obtain ⟨k, hk, e⟩ := List.mem_map.mp h
      have := List.mem_range.mp hk
      omega
theorem newLS_cont {L : Lay} {rd : Rd} : contL rd (newLS L) = [some (fun _ => none), none, none, none] := by
  have e : contT rd (List.replicate (L.lastId + 1) 0) = fun _ => none := by
    funext k
    unfold contT
    rw [if_pos]
    by_cases h : k < L.lastId + 1
    · rw [getD_lt (by simpa using h)]; simp
    · rw [getD_ge (by simp; omega)]
  show [some (contT rd (List.replicate (L.lastId + 1) 0)), none, none, none] = _
  rw [e]
theorem new_ok {L : Lay} (O : L.Ok) {fr : List Nat} (hf : NewFree L (newLS L) fr) : SI L (checkpoint L fr ⟨Dev.new (List.replicate L.db none), newLS L, 0, 1⟩) [some (fun _ => none), none, none, none] (fun A => A = [some (fun _ => none), none, none, none]) := by
  have hn : ∀ a b, rdl (List.replicate L.db none) a = some b → False := fun a b e => by
    unfold rdl at e
    by_cases h : a < L.db
    · simp [List.getD, h] at e
    · simp [List.getD, h] at e
  have := (ck_fresh O (l := List.replicate L.db none) (ls := newLS L) (s := 0) (r := 1) (fr := fr) (by simp) (newLS_ok O) (fun a b e => (hn a b e).elim) (fun a b e => (hn a b e).elim) (by omega) hf).1
  rw [newLS_cont] at this
  exact this
theorem left_sok {L : Lay} {st : St} {A : AS} (h : SOK L st A) (kept torn : List Nat) : (st.dev.left kept torn).length = L.db ∧ ∀ a b, rdl (st.dev.left kept torn) a = some b → b.Wt L := by
  refine ⟨by unfold Dev.left; rw [leftFrom_len]; exact h.lu, fun a b e => ?_⟩
  rcases leftFrom_or (kept := kept) (torn := torn) st.dev.waiting 0 st.dev.sure a with q | ⟨y, hy, q⟩
  · rw [show rdl (st.dev.left kept torn) a = _ from q] at e
    exact h.wu a b e
  · rcases q with q | q
    · rw [show rdl (st.dev.left kept torn) a = _ from q] at e; cases e
    · rw [show rdl (st.dev.left kept torn) a = _ from q] at e; cases e; exact h.ww _ hy
/-- what a power failure leaves is mounted: the state behind, which is one of those -/
theorem mount_ok {L : Lay} (O : L.Ok) {st : St} {A : AS} {S : AS → Prop} (h : SI L st A S) (kept torn : List Nat) :
    ∃ r s0 n hh, Rec L (rdl (st.dev.left kept torn)) r s0 n hh ∧ S (contL (rdl (st.dev.left kept torn)) (hh n)) ∧
      ∀ s fr, (∀ a b, rdl (st.dev.left kept torn) a = some b → b.seq ≤ s) → NewFree L (hh n) fr →
        SI L (checkpoint L fr ⟨Dev.new (st.dev.left kept torn), hh n, s, r⟩) (contL (rdl (st.dev.left kept torn)) (hh n)) (fun A' => A' = contL (rdl (st.dev.left kept torn)) (hh n)) := by
  obtain ⟨r, s0, n, hh, R, hS⟩ := h.crash O kept torn
  obtain ⟨l1, l2⟩ := left_sok h.ok kept torn
  exact ⟨r, s0, n, hh, R, hS, fun s fr sq nf => (ck_fresh O l1 R.ok sq l2 R.r2 nf).1⟩
end K30

namespace K30
/-! ## M9: an epoch -/
def Wb (st : St) (n : Nat) : Prop := st.dev.dark = false → st.dev.waiting.length ≤ n
theorem Wb.mono {st : St} {n m : Nat} (h : Wb st n) (e : n ≤ m) : Wb st m := fun z => Nat.le_trans (h z) e
theorem payWs_len {start seq : Nat} : ∀ (pays : List Pay) (i : Nat), (payWs start seq i pays).length = pays.length
  | [], _ => rfl
  | _ :: r, i => by unfold payWs; rw [List.length_cons, payWs_len r, List.length_cons]
theorem barrier_wb (d : Dev) (h : d.barrier.dark = false) : d.barrier.waiting = [] ∧ d.dark = false := by
  have e : d.tick.dark = false := (barrier_dark _).symm.trans h
  exact ⟨(barrier_no _ e).2, tick_dark_of _ e⟩
theorem wb_ck {L : Lay} {fr : List Nat} {st : St} : Wb (checkpoint L fr st) 0 := fun hd => by
  have := (barrier_wb _ hd).1
  show (Dev.barrier _).waiting.length ≤ 0
  rw [this]; exact Nat.le_refl _
theorem dk_ck {L : Lay} {fr : List Nat} {st : St} (h : (checkpoint L fr st).dev.dark = false) : st.dev.dark = false :=
  (barrier_wb _ (writes_dark_of _ _ (barrier_wb _ h).2)).2
theorem wb_batch {L : Lay} {st : St} {kind n : Nat} {body : Body} {pays : List Pay} (h : Wb st n) : Wb (writeBatch L st kind body pays) (n + (1 + pays.length)) := fun hd => by
  have d0 : st.dev.dark = false := writes_dark_of _ _ hd
  obtain ⟨i, e, _⟩ := writes_wait (batchWs (L.ad st.ls.head st.ls.place) ⟨kind, st.seq + 1, 0, body⟩ pays) st.dev
  show (Dev.writes _ _).waiting.length ≤ _
  rw [e, List.length_append]
  have h1 := h d0
  have h2 : ((batchWs (L.ad st.ls.head st.ls.place) ⟨kind, st.seq + 1, 0, body⟩ pays).take i).length ≤ 1 + pays.length := by
    rw [List.length_take]
    have : (batchWs (L.ad st.ls.head st.ls.place) ⟨kind, st.seq + 1, 0, body⟩ pays).length = 1 + pays.length := by unfold batchWs; rw [List.length_cons, payWs_len]; omega
    omega
  omega
theorem dk_batch {L : Lay} {st : St} {kind : Nat} {body : Body} {pays : List Pay} (h : (writeBatch L st kind body pays).dev.dark = false) : st.dev.dark = false := writes_dark_of _ _ h
theorem com_cases {L : Lay} {st st' : St} {ids used : List Nat} {pays : List Pay} {act : Nat} (e : appendCommit L st ids pays used act = some st') : st' = writeBatch L (enterSt st) 1 (.com ids used act) pays ∨ st' = writeBatch L st 1 (.com ids used act) pays := by
  unfold appendCommit at e
  by_cases c : L.blks < st.ls.place + (1 + ids.length)
  · rw [if_pos c] at e
    by_cases c2 : st.ls.queue = [] ∨ L.blks < 1 + ids.length
    · rw [if_pos c2] at e; cases e
    · rw [if_neg c2] at e; cases e; exact .inl rfl
  · rw [if_neg c] at e; cases e; exact .inr rfl
theorem wb_com {L : Lay} {st st' : St} {ids used : List Nat} {pays : List Pay} {act n : Nat} (h : Wb st n) (e : appendCommit L st ids pays used act = some st') : Wb st' (n + (1 + pays.length)) := by
  rcases com_cases e with rfl | rfl
  · exact wb_batch (st := enterSt st) h
  · exact wb_batch h
theorem dk_com {L : Lay} {st st' : St} {ids used : List Nat} {pays : List Pay} {act : Nat} (e : appendCommit L st ids pays used act = some st') (h : st'.dev.dark = false) : st.dev.dark = false := by
  rcases com_cases e with rfl | rfl
  · exact dk_batch (st := enterSt st) h
  · exact dk_batch h
theorem dk_move {L : Lay} {st st' : St} {as : List Nat} (e : appendMove L st as = some st') (h : st'.dev.dark = false) : st.dev.dark = false := by
  unfold appendMove at e
  by_cases c : st.ls.queue = [] ∨ L.pay < as.length
  · rw [if_pos c] at e; cases e
  · rw [if_neg c] at e
    cases e1 : paysAt st.rd as with
    | none => rw [e1] at e; cases e
    | some ps => rw [e1] at e; cases e; exact dk_batch (st := enterSt st) h
theorem wd_fill {L : Lay} {st st' : St} {b : Bool} {n : Nat} (hf : Fill L st st' b) (h : Wb st n) : Wb st' n ∧ (st'.dev.dark = false → st.dev.dark = false) := by
  rcases hf with ⟨rfl, rfl⟩ | ⟨rfl, as, st1, fr, e, nf, rfl⟩
  · exact ⟨h, id⟩
  · exact ⟨wb_ck.mono (Nat.zero_le _), fun z => dk_move e (dk_ck z)⟩
theorem wd_fills {L : Lay} {st st' : St} (hf : Fills L st st') : ∀ {n : Nat}, Wb st n → Wb st' n ∧ (st'.dev.dark = false → st.dev.dark = false) := by
  induction hf with
  | nil => exact fun h => ⟨h, id⟩
  | cons a _ ih =>
    intro n h
    obtain ⟨h1, h2⟩ := wd_fill a h
    obtain ⟨h3, h4⟩ := ih h1
    exact ⟨h3, fun z => h2 (h4 z)⟩
theorem wd_room {L : Lay} {st st' : St} {n : Nat} (hf : Room L st st') (h : Wb st n) : Wb st' n ∧ (st'.dev.dark = false → st.dev.dark = false) := by
  rcases hf with rfl | ⟨fr, nf, hf⟩
  · exact ⟨h, id⟩
  · obtain ⟨h1, h2⟩ := wd_fills hf (wb_ck (L := L) (fr := fr) (st := st))
    exact ⟨h1.mono (Nat.zero_le _), fun z => dk_ck (h2 z)⟩
theorem wd_sync {st : St} : Wb (syncSt st) 0 ∧ ((syncSt st).dev.dark = false → st.dev.dark = false) := by
  refine ⟨fun hd => ?_, fun hd => (barrier_wb _ hd).2⟩
  show (Dev.barrier _).waiting.length ≤ 0
  rw [(barrier_wb _ hd).1]; exact Nat.le_refl _
theorem wd_cut {st : St} {n k : Nat} (h : Wb st k) : Wb (cutSt st n) k ∧ (cutSt st n).dev.dark = st.dev.dark := by
  have e : (cutSt st n).dev.waiting = st.dev.waiting ∧ (cutSt st n).dev.dark = st.dev.dark := by
    unfold cutSt Dev.cutAfter
    dsimp only
    split <;> exact ⟨rfl, rfl⟩
  exact ⟨fun z => by rw [e.1]; exact h (by rw [← e.2]; exact z), e.2⟩
/-- within an epoch: the contents behind the commits, from which on they may be found -/
structure Ep (L : Lay) (st : St) (A : AS) (sts : List AS) (low k : Nat) : Prop where
  si : SI L st A (fun A' => ∃ i, low ≤ i ∧ sts[i]? = some A')
  wb : Wb st (40 * k)
  lo : low < sts.length
  la : st.dev.dark = false → sts[sts.length - 1]? = some A
theorem Ep.quiet {L : Lay} {st st' : St} {A : AS} {S : AS → Prop} {sts : List AS} {low k : Nat} (h : Ep L st A sts low k) (t : st'.dev.dark = false → SI L st' A (fun A' => A' = A)) (w : Wb st' (40 * k)) (dm : st'.dev.dark = false → st.dev.dark = false) (hd : st'.dev.dark = false) :
    Ep L st' A sts (sts.length - 1) (k + 1) := by
  have := h.lo
  refine ⟨(t hd).mono fun A' e => ⟨sts.length - 1, Nat.le_refl _, ?_⟩, w.mono (by omega), by omega, fun _ => h.la (dm hd)⟩
  rw [e]; exact h.la (dm hd)
theorem Ep.keep {L : Lay} {st st' : St} {A : AS} {sts : List AS} {low k : Nat} (h : Ep L st A sts low k) (t : SI L st' A (fun A' => ∃ i, low ≤ i ∧ sts[i]? = some A')) (w : Wb st' (40 * k)) (dm : st'.dev.dark = false → st.dev.dark = false) :
    Ep L st' A sts low (k + 1) := ⟨t, w.mono (by omega), h.lo, fun z => h.la (dm z)⟩
theorem Ep.com {L : Lay} (O : L.Ok) {st st' : St} {A : AS} {sts : List AS} {low k : Nat} {ids used : List Nat} {pays : List Pay} {act : Nat} (h : Ep L st A sts low k) (hl : pays.length = ids.length) (pk : ∀ p ∈ pays, p.1 = 3 ∨ p.1 = 4)
    (nd : ids.Nodup) (hi : ∀ k ∈ ids, 0 < k) (hu : ∀ k ∈ used, 0 < k ∧ k ≤ L.lastId) (ha : act ≤ 6) (hu2 : used.length ≤ 1000) (h39 : ids.length ≤ 39) (e : appendCommit L st ids pays used act = some st') :
    Ep L st' (afterA A ids pays used act) (if st.dev.dark = false then sts ++ [afterA A ids pays used act] else sts) low (k + 1) := by
  have hlo := h.lo
  have w : Wb st' (40 * (k + 1)) := (wb_com h.wb e).mono (by omega)
  by_cases c : st.dev.dark = false
  · rw [if_pos c]
    refine ⟨commit_ok O h.si hl pk nd hi hu ha hu2 e (fun A' ⟨i, h1, h2⟩ => ⟨i, h1, ?_⟩) fun _ => ⟨sts.length, by omega, ?_⟩, w, by rw [List.length_append]; omega, fun _ => ?_⟩
    · rw [List.getElem?_append_left (List.getElem?_eq_some_iff.mp h2).1]; exact h2
    · rw [List.getElem?_append_right (Nat.le_refl _), Nat.sub_self]; rfl
    · rw [List.length_append, List.getElem?_append_right (by simp)]
      simp
  · rw [if_neg c]
    exact ⟨commit_ok O h.si hl pk nd hi hu ha hu2 e (fun _ z => z) fun z => absurd z c, w, h.lo, fun z => absurd (dk_com e z) c⟩
end K30

namespace K30
open PySem PySem.Spec PyProof.Rows L2
/-! ## W0: the text by places, objects as they stand -/
abbrev CL (K : PySem.W.Frag) : Addr := He.ga K "Layout"
abbrev CC (K : PySem.W.Frag) : Addr := He.ga K "Counts"
abbrev CG (K : PySem.W.Frag) : Addr := He.ga K "Log"
abbrev CD (K : PySem.W.Frag) : Addr := He.ga K "Device"
/-- what the top has written, as the walks ask it -/
structure Txt (K : PySem.W.Frag) (mg : Str → Option Value) : Prop where
  cL : Cls K (CL K)
  mL : mg "Layout" = some (.ref (CL K))
  nL_segments : NoAttr K (CL K) "segments"
  nL_segment_blocks : NoAttr K (CL K) "segment_blocks"
  nL_block_size : NoAttr K (CL K) "block_size"
  nL_payload : NoAttr K (CL K) "payload"
  nL_limit : NoAttr K (CL K) "limit"
  nL_last_id : NoAttr K (CL K) "last_id"
  nL_fan : NoAttr K (CL K) "fan"
  nL_region_blocks : NoAttr K (CL K) "region_blocks"
  nL_device_blocks : NoAttr K (CL K) "device_blocks"
  cC : Cls K (CC K)
  mC : mg "Counts" = some (.ref (CC K))
  nC_commits : NoAttr K (CC K) "commits"
  nC_commit_blocks : NoAttr K (CC K) "commit_blocks"
  nC_moves : NoAttr K (CC K) "moves"
  nC_move_blocks : NoAttr K (CC K) "move_blocks"
  nC_checkpoints : NoAttr K (CC K) "checkpoints"
  nC_checkpoint_blocks : NoAttr K (CC K) "checkpoint_blocks"
  nC_barriers : NoAttr K (CC K) "barriers"
  cG : Cls K (CG K)
  mG : mg "Log" = some (.ref (CG K))
  nG_device : NoAttr K (CG K) "device"
  nG_layout : NoAttr K (CG K) "layout"
  nG_present : NoAttr K (CG K) "present"
  nG_slots : NoAttr K (CG K) "slots"
  nG_head : NoAttr K (CG K) "head"
  nG_place : NoAttr K (CG K) "place"
  nG_queue : NoAttr K (CG K) "queue"
  nG_last_sequence : NoAttr K (CG K) "last_sequence"
  nG_region : NoAttr K (CG K) "region"
  nG_counts : NoAttr K (CG K) "counts"
  cD : Cls K (CD K)
  mD : mg "Device" = some (.ref (CD K))
  nD_layout : NoAttr K (CD K) "layout"
  nD_sure : NoAttr K (CD K) "sure"
  nD_seen : NoAttr K (CD K) "seen"
  nD_waiting : NoAttr K (CD K) "waiting"
  nD_fuse : NoAttr K (CD K) "fuse"
  nD_dark : NoAttr K (CD K) "dark"
  b_enumerate : mg "enumerate" = none
  b_int : mg "int" = none
  b_len : mg "len" = none
  b_list : mg "list" = none
  b_max : mg "max" = none
  b_range : mg "range" = none
  b_sorted : mg "sorted" = none
  b_tuple : mg "tuple" = none
  b_zip : mg "zip" = none
  i_COMMIT : ∃ t, mg "COMMIT" = some (.int 1 t)
  i_MOVE : ∃ t, mg "MOVE" = some (.int 2 t)
  i_DATA : ∃ t, mg "DATA" = some (.int 3 t)
  i_NODE : ∃ t, mg "NODE" = some (.int 4 t)
  i_PART : ∃ t, mg "PART" = some (.int 5 t)
  i_LEAST_SEGMENTS : ∃ t, mg "LEAST_SEGMENTS" = some (.int 4 t)
  i_MOST_SEGMENTS : ∃ t, mg "MOST_SEGMENTS" = some (.int 16 t)
  i_LEAST_BLOCKS : ∃ t, mg "LEAST_BLOCKS" = some (.int 16 t)
  i_MOST_BLOCKS : ∃ t, mg "MOST_BLOCKS" = some (.int 32 t)
  i_HEAD_OCTETS : ∃ t, mg "HEAD_OCTETS" = some (.int 16 t)
  i_SLOTS : ∃ t, mg "SLOTS" = some (.int 3 t)
/-- a def of the module as it stands -/
def FD (K : PySem.W.Frag) (mg : Str → Option Value) (x : Str) (st : Stmt) : Prop := ∃ (f : Addr) (fd : FuncData), FunD K x x (defArgs st) (defBody st) (defScope st) [] [] f fd ∧ mg x = some (.ref f)
/-- a class's __init__ -/
def KD (K : PySem.W.Frag) (mg : Str → Option Value) (c : Str) (C : Addr) (qual : Str) (st : Stmt) : Prop := ∃ (f : Addr) (fd : FuncData), FunD K "__init__" qual (defArgs st) (defBody st) (defScope st) [] [] f fd ∧ Mk K C f ∧ mg c = some (.ref C)
/-- a class's __init__ with defaults -/
def KD1 (K : PySem.W.Frag) (mg : Str → Option Value) (c : Str) (C : Addr) (qual : Str) (st : Stmt) (dvs : List V) : Prop := ∃ (f : Addr) (fd : FuncData), FunD K "__init__" qual (defArgs st) (defBody st) (defScope st) dvs [] f fd ∧ Mk K C f ∧ mg c = some (.ref C)
/-- a method -/
def MD (K : PySem.W.Frag) (C : Addr) (m qual : Str) (st : Stmt) : Prop := ∃ (f : Addr) (fd : FuncData), FunD K m qual (defArgs st) (defBody st) (defScope st) [] [] f fd ∧ Meth K C m f

section
variable {X : Cx}
theorem pe_gi {x : Str} {i : Int} {pos : Pos} (hm : ∃ t, X.mg x = some (.int i t)) (hg : Gl X x) (hd : (x == ("__debug__" : Str)) = false := by decide) : PE X (.Name x pos) (tC (.int i)) := by
  obtain ⟨t, e⟩ := hm
  exact pe_glob hg e ⟨t, rfl⟩ hd
end
theorem dT {c A B : Prop} [Decidable c] (hc : c) (h : A) : if decide c = true then A else B := by
  rw [if_pos (decide_eq_true hc)]; exact h
theorem dF {c A B : Prop} [Decidable c] (hc : ¬ c) (h : B) : if decide c = true then A else B := by
  rw [if_neg (by rw [decide_eq_false hc]; exact Bool.false_ne_true)]; exact h
theorem dNT {c A B : Prop} [Decidable c] (hc : ¬ c) (h : A) : if (!decide c) = true then A else B := by
  rw [decide_eq_false hc]; exact iteT h
theorem dNF {c A B : Prop} [Decidable c] (hc : c) (h : B) : if (!decide c) = true then A else B := by
  rw [decide_eq_true hc]; exact iteF h
theorem bT {b : Bool} {A B : Prop} (hb : b = true) (h : A) : if b = true then A else B := by rw [if_pos hb]; exact h
theorem bF {b : Bool} {A B : Prop} (hb : b = false) (h : B) : if b = true then A else B := by
  subst hb; exact iteF h
theorem sR (H : Hp) : Same H H := fun _ _ e => e
theorem sT {A B C : Hp} (h : Same A B) (k : Same B C) : Same A C := fun b o e => k b o (h b o e)
/-- a new object; an object that the first heap does not know -/
theorem sN {H H' : Hp} {p : Addr} {o : HO} (s : Same H H') (hp : H' p = none) : Same H (upd H' p o) := fun b u e => by
  rw [upd_ne (ne_of_none (s _ _ e) hp)]; exact s _ _ e
theorem sM {H H' : Hp} {p : Addr} {o : HO} (s : Same H H') (hp : H p = none) : Same H (upd H' p o) := fun b u e => by
  rw [upd_ne (ne_of_none e hp)]; exact s _ _ e
theorem sF {H H' : Hp} {p : Addr} (s : Same H H') (hp : H' p = none) : H p = none := by
  cases z : H p with
  | none => rfl
  | some u => rw [s _ _ z] at hp; cases hp
/-- what stands at p, p being another than the new one -/
theorem uN {H : Hp} {p q : Addr} {o u : HO} (h : H p = some u) (hq : H q = none) : upd H q o p = some u := by
  rw [upd_ne (ne_of_none h hq)]; exact h
/-! ### numbers, tables -/
def nats (xs : List Nat) : List V := xs.map fun (n : Nat) => V.int (n : Int)
theorem nats_len (xs : List Nat) : (nats xs).length = xs.length := List.length_map ..
theorem nats_at {xs : List Nat} {i : Nat} (h : i < xs.length) : (nats xs)[i]? = some (V.int (xs[i] : Int)) := by
  unfold nats; rw [List.getElem?_map, List.getElem?_eq_getElem h]; rfl
theorem nats_app (xs ys : List Nat) : nats (xs ++ ys) = nats xs ++ nats ys := List.map_append ..
/-- one to one -/
def All2 {α β : Type} (R : α → β → Prop) (xs : List α) (ys : List β) : Prop := xs.length = ys.length ∧ ∀ (i : Nat) (x : α) (y : β), xs[i]? = some x → ys[i]? = some y → R x y
theorem All2.nil {α β : Type} {R : α → β → Prop} : All2 R [] [] := ⟨rfl, fun i x y h => by simp at h⟩
theorem All2.cons {α β : Type} {R : α → β → Prop} {x : α} {y : β} {xs : List α} {ys : List β} (h : R x y) (t : All2 R xs ys) : All2 R (x :: xs) (y :: ys) :=
  ⟨by simp [t.1], fun i a b h1 h2 => by
    cases i with
    | zero => cases h1; cases h2; exact h
    | succ i => exact t.2 i a b (by simpa using h1) (by simpa using h2)⟩
theorem All2.mono {α β : Type} {R R' : α → β → Prop} {xs : List α} {ys : List β} (h : All2 R xs ys) (k : ∀ x y, R x y → R' x y) : All2 R' xs ys := ⟨h.1, fun i x y h1 h2 => k _ _ (h.2 i x y h1 h2)⟩
theorem All2.at_ {α β : Type} {R : α → β → Prop} {xs : List α} {ys : List β} (h : All2 R xs ys) {i : Nat} {x : α} (hx : xs[i]? = some x) : ∃ y, ys[i]? = some y ∧ R x y := by
  have hl : i < ys.length := by rw [← h.1]; exact (List.getElem?_eq_some_iff.mp hx).1
  exact ⟨ys[i], List.getElem?_eq_getElem hl, h.2 i x _ hx (List.getElem?_eq_getElem hl)⟩
theorem All2.set {α β : Type} {R : α → β → Prop} {xs : List α} {ys : List β} (h : All2 R xs ys) {i : Nat} {x : α} {y : β} (r : R x y) : All2 R (xs.set i x) (ys.set i y) := by
  refine ⟨by simp [h.1], fun j a b h1 h2 => ?_⟩
  rw [List.getElem?_set] at h1 h2
  by_cases e : i = j
  · subst e
    rw [if_pos rfl] at h1 h2
    by_cases hl : i < xs.length
    · rw [if_pos hl] at h1
      rw [if_pos (h.1 ▸ hl)] at h2
      cases h1; cases h2; exact r
    · rw [if_neg hl] at h1; cases h1
  · rw [if_neg e] at h1 h2
    exact h.2 j a b h1 h2
theorem All2.snoc {α β : Type} {R : α → β → Prop} {xs : List α} {ys : List β} (h : All2 R xs ys) {x : α} {y : β} (r : R x y) : All2 R (xs ++ [x]) (ys ++ [y]) := by
  refine ⟨by simp [h.1], fun j a b h1 h2 => ?_⟩
  by_cases hl : j < xs.length
  · rw [List.getElem?_append_left hl] at h1
    rw [List.getElem?_append_left (h.1 ▸ hl)] at h2
    exact h.2 j a b h1 h2
  · rw [List.getElem?_append_right (by omega)] at h1
    rw [List.getElem?_append_right (by rw [← h.1]; omega), ← h.1] at h2
    have : j - xs.length = 0 := by
      have := (List.getElem?_eq_some_iff.mp h1).1
      simp at this; omega
    rw [this] at h1 h2
    cases h1; cases h2; exact r
/-! ### the tuples stay -/
def TK (H H' : Hp) : Prop := ∀ a xs, H a = some (.tup xs) → H' a = some (.tup xs)
theorem TK.of {H H' : Hp} (s : Same H H') : TK H H' := fun a xs h => s a _ h
theorem TK.refl (H : Hp) : TK H H := fun _ _ h => h
theorem TK.upd {H : Hp} {p : Addr} {o : HO} (h : ∀ xs, H p ≠ some (.tup xs)) : TK H (upd H p o) := fun a xs e => by
  have : a ≠ p := fun q => h xs (q ▸ e)
  rw [upd_ne this]; exact e
theorem TK.trans {A B C : Hp} (h : TK A B) (k : TK B C) : TK A C := fun a xs e => k a xs (h a xs e)
/-! ### blocks -/
def BodyR (H : Hp) (t : Addr) : Body → Prop
  | .flat xs => H t = some (.tup (nats xs))
  | .com ids used act => ∃ t1 t2, H t = some (.tup [.ref t1, .ref t2, .int (act : Int)]) ∧ H t1 = some (.tup (nats ids)) ∧ H t2 = some (.tup (nats used))
def BlkR (H : Hp) (b : Blk) (t : Addr) : Prop := ∃ tb, H t = some (.tup [.int (b.kind : Int), .int (b.seq : Int), .int (b.rank : Int), .ref tb]) ∧ BodyR H tb b.body
def OBR (H : Hp) : Option Blk → V → Prop
  | none, v => v = .non
  | some b, v => ∃ t, v = .ref t ∧ BlkR H b t
def WtR (H : Hp) (w : Nat × Blk) (v : V) : Prop := ∃ t tb, v = .ref t ∧ H t = some (.tup [.int (w.1 : Int), .ref tb]) ∧ BlkR H w.2 tb
theorem BodyR.tk {H H' : Hp} {t : Addr} {b : Body} (k : TK H H') (h : BodyR H t b) : BodyR H' t b := by
  cases b with
  | flat xs => exact k _ _ h
  | com ids used act =>
    obtain ⟨t1, t2, h1, h2, h3⟩ := h
    exact ⟨t1, t2, k _ _ h1, k _ _ h2, k _ _ h3⟩
theorem BlkR.tk {H H' : Hp} {b : Blk} {t : Addr} (k : TK H H') (h : BlkR H b t) : BlkR H' b t := by
  obtain ⟨tb, h1, h2⟩ := h
  exact ⟨tb, k _ _ h1, h2.tk k⟩
theorem OBR.tk {H H' : Hp} {o : Option Blk} {v : V} (k : TK H H') (h : OBR H o v) : OBR H' o v := by
  cases o with
  | none => exact h
  | some b => obtain ⟨t, e, h⟩ := h; exact ⟨t, e, h.tk k⟩
theorem WtR.tk {H H' : Hp} {w : Nat × Blk} {v : V} (k : TK H H') (h : WtR H w v) : WtR H' w v := by
  obtain ⟨t, tb, e, h1, h2⟩ := h
  exact ⟨t, tb, e, k _ _ h1, h2.tk k⟩
/-! ### the objects -/
def layF (L : Lay) : List (Str × V) := [("segments", .int (L.segs : Int)), ("segment_blocks", .int (L.blks : Int)), ("block_size", .int (L.bs : Int)), ("payload", .int (L.pay : Int)), ("limit", .int (L.lim : Int)), ("last_id", .int (L.lastId : Int)), ("fan", .int (L.fan : Int)), ("region_blocks", .int (L.rb : Int)), ("device_blocks", .int (L.db : Int))]
def LayAt (K : PySem.W.Frag) (H : Hp) (l : Addr) (L : Lay) : Prop := ∃ dx, H l = some (.ins (CL K) dx (layF L))
theorem LayAt.same {K : PySem.W.Frag} {H H' : Hp} {l : Addr} {L : Lay} (h : LayAt K H l L) (s : Same H H') : LayAt K H' l L := let ⟨dx, e⟩ := h; ⟨dx, s _ _ e⟩
def devF (lay sure seen waiting : Addr) (fuse : V) (dark : Bool) : List (Str × V) := [("layout", .ref lay), ("sure", .ref sure), ("seen", .ref seen), ("waiting", .ref waiting), ("fuse", fuse), ("dark", .bl dark)]
def fuV : Option Nat → V
  | none => .non
  | some n => .int (n : Int)
/-- the device's parts: where they stand -/
structure DevP where
  dx : Addr
  su : Addr
  se : Addr
  wa : Addr
  vsu : List V
  vse : List V
  vwa : List V
/-- a device stands at dv, apart from what H0 holds -/
structure DevQ (K : PySem.W.Frag) (H0 H : Hp) (dv lay : Addr) (d : Dev) (p : DevP) : Prop where
  s : Same H0 H
  n0 : H0 dv = none
  n1 : H0 p.su = none
  n2 : H0 p.se = none
  n3 : H0 p.wa = none
  d12 : p.su ≠ p.se
  d13 : p.su ≠ p.wa
  d23 : p.se ≠ p.wa
  h0 : H dv = some (.ins (CD K) p.dx (devF lay p.su p.se p.wa (fuV d.fuse) d.dark))
  h1 : H p.su = some (.lst p.vsu)
  h2 : H p.se = some (.lst p.vse)
  h3 : H p.wa = some (.lst p.vwa)
  r1 : All2 (OBR H) d.sure p.vsu
  r2 : All2 (OBR H) d.seen p.vse
  r3 : All2 (WtR H) d.waiting p.vwa
def DevO (K : PySem.W.Frag) (H0 H : Hp) (dv lay : Addr) (d : Dev) : Prop := ∃ p, DevQ K H0 H dv lay d p
section
variable {K : PySem.W.Frag} {H0 H H' : Hp} {dv lay : Addr} {d : Dev} {p : DevP}
/-- objects beside the device changed: H0 to H0', H to H' alike -/
theorem DevQ.side (h : DevQ K H0 H dv lay d p) {H0' : Hp} (s : Same H0' H') (n0 : H0' dv = none) (n1 : H0' p.su = none) (n2 : H0' p.se = none) (n3 : H0' p.wa = none) (tk : TK H H')
    (k0 : H' dv = H dv) (k1 : H' p.su = H p.su) (k2 : H' p.se = H p.se) (k3 : H' p.wa = H p.wa) : DevQ K H0' H' dv lay d p :=
  ⟨s, n0, n1, n2, n3, h.d12, h.d13, h.d23, k0.trans h.h0, k1.trans h.h1, k2.trans h.h2, k3.trans h.h3, h.r1.mono fun _ _ z => z.tk tk, h.r2.mono fun _ _ z => z.tk tk, h.r3.mono fun _ _ z => z.tk tk⟩
theorem DevO.same (h : DevO K H0 H dv lay d) (s : Same H H') : DevO K H0 H' dv lay d := by
  obtain ⟨p, h⟩ := h
  exact ⟨p, h.side (fun b o e => s _ _ (h.s b o e)) h.n0 h.n1 h.n2 h.n3 (TK.of s) (by rw [s _ _ h.h0, h.h0]) (by rw [s _ _ h.h1, h.h1]) (by rw [s _ _ h.h2, h.h2]) (by rw [s _ _ h.h3, h.h3])⟩
/-- an object of the frame is changed -/
theorem DevO.put (h : DevO K H0 H dv lay d) {x : Addr} {o o' : HO} (hx : H0 x = some o) (ht : ∀ xs, o ≠ .tup xs) : DevO K (upd H0 x o') (upd H x o') dv lay d := by
  obtain ⟨p, h⟩ := h
  have nx : ∀ a, H0 a = none → a ≠ x := fun a ha e => by subst e; rw [hx] at ha; cases ha
  refine ⟨p, h.side (fun b u e => ?_) ?_ ?_ ?_ ?_ (TK.upd fun xs e => ?_) (upd_ne (nx _ h.n0)) (upd_ne (nx _ h.n1)) (upd_ne (nx _ h.n2)) (upd_ne (nx _ h.n3))⟩
  · by_cases z : b = x
    · subst z; rw [upd_same] at e ⊢; exact e
    · rw [upd_ne z] at e ⊢; exact h.s _ _ e
  · rw [upd_ne (nx _ h.n0)]; exact h.n0
  · rw [upd_ne (nx _ h.n1)]; exact h.n1
  · rw [upd_ne (nx _ h.n2)]; exact h.n2
  · rw [upd_ne (nx _ h.n3)]; exact h.n3
  · rw [h.s _ _ hx] at e
    exact ht xs (Option.some.inj e)
/-- the frame grows by what is new -/
theorem DevO.grow (h : DevO K H0 H dv lay d) {H1 : Hp} (s : Same H1 H') (hH : Same H H') (k : ∀ a o, H1 a = some o → H0 a = some o ∨ H a = none) : DevO K H1 H' dv lay d := by
  obtain ⟨p, h⟩ := h
  have no : ∀ a o, H a = some o → H0 a = none → H1 a = none := fun a o e n => by
    cases q : H1 a with
    | none => rfl
    | some u =>
      rcases k a u q with z | z
      · rw [n] at z; cases z
      · rw [e] at z; cases z
  exact ⟨p, h.side s (no _ _ h.h0 h.n0) (no _ _ h.h1 h.n1) (no _ _ h.h2 h.n2) (no _ _ h.h3 h.n3) (TK.of hH) (by rw [hH _ _ h.h0, h.h0]) (by rw [hH _ _ h.h1, h.h1]) (by rw [hH _ _ h.h2, h.h2]) (by rw [hH _ _ h.h3, h.h3])⟩
theorem DevO.frame (h : DevO K H0 H dv lay d) : Same H0 H := let ⟨_, h⟩ := h; h.s
end
/-! ### the log -/
def logF (dv lay pr sl : Addr) (hd pl : Nat) (qu : Addr) (sq rg : Nat) (cn : Addr) : List (Str × V) :=
  [("device", .ref dv), ("layout", .ref lay), ("present", .ref pr), ("slots", .ref sl), ("head", .int (hd : Int)), ("place", .int (pl : Int)), ("queue", .ref qu), ("last_sequence", .int (sq : Int)), ("region", .int (rg : Int)), ("counts", .ref cn)]
def cntF (c1 c2 c3 c4 c5 c6 c7 : Int) : List (Str × V) := [("commits", .int c1), ("commit_blocks", .int c2), ("moves", .int c3), ("move_blocks", .int c4), ("checkpoints", .int c5), ("checkpoint_blocks", .int c6), ("barriers", .int c7)]
def SlR (H : Hp) (o : Option (List Nat)) (v : V) : Prop := match o with
  | none => v = .non
  | some t => ∃ p, v = .ref p ∧ H p = some (.lst (nats t))
theorem SlR.same {H H' : Hp} {o : Option (List Nat)} {v : V} (s : Same H H') (h : SlR H o v) : SlR H' o v := by
  cases o with
  | none => exact h
  | some t => obtain ⟨p, e, h⟩ := h; exact ⟨p, e, s _ _ h⟩
structure LogP where
  dx : Addr
  pr : Addr
  sl : Addr
  vsl : List V
  qu : Addr
  cn : Addr
  dc : Addr
  c1 : Int
  c2 : Int
  c3 : Int
  c4 : Int
  c5 : Int
  c6 : Int
  c7 : Int
/-- the log's own objects, over H0, within the frame H1 of its device -/
structure LogQ (K : PySem.W.Frag) (H0 H1 : Hp) (lg dv lay : Addr) (ls : LS) (sq rg : Nat) (q : LogP) : Prop where
  s : Same H0 H1
  n0 : H0 lg = none
  n1 : H0 q.cn = none
  g0 : H1 lg = some (.ins (CG K) q.dx (logF dv lay q.pr q.sl ls.head ls.place q.qu sq rg q.cn))
  g1 : H1 q.cn = some (.ins (CC K) q.dc (cntF q.c1 q.c2 q.c3 q.c4 q.c5 q.c6 q.c7))
  d01 : lg ≠ q.cn
  p : H1 q.pr = some (.lst (nats ls.present))
  sl : H1 q.sl = some (.lst q.vsl)
  rs : All2 (SlR H1) ls.slots q.vsl
  qu : H1 q.qu = some (.lst (nats ls.queue))
structure LogO (K : PySem.W.Frag) (H0 H : Hp) (lg dv lay : Addr) (L : Lay) (st : St) : Prop where
  ex : ∃ H1 q, DevO K H1 H dv lay st.dev ∧ LogQ K H0 H1 lg dv lay st.ls st.seq st.reg q ∧ LayAt K H0 lay L
section
variable {K : PySem.W.Frag} {H0 H H' : Hp} {lg dv lay : Addr} {L : Lay} {st : St}
theorem LogO.same (h : LogO K H0 H lg dv lay L st) (s : Same H H') : LogO K H0 H' lg dv lay L st := by
  obtain ⟨H1, q, h1, h2, h3⟩ := h.ex
  exact ⟨H1, q, h1.same s, h2, h3⟩
theorem LogO.frame (h : LogO K H0 H lg dv lay L st) : Same H0 H := by
  obtain ⟨H1, q, h1, h2, h3⟩ := h.ex
  exact fun b o e => h1.frame _ _ (h2.s _ _ e)
theorem LogO.layA (h : LogO K H0 H lg dv lay L st) : LayAt K H lay L := by
  obtain ⟨H1, q, h1, h2, h3⟩ := h.ex
  exact h3.same h.frame
/-- the frame grows by what is new (some of it) -/
theorem LogO.grow (h : LogO K H0 H lg dv lay L st) {HN : Hp} (s0 : Same H0 HN) (s : Same HN H') (hH : Same H H') (k : ∀ a o, HN a = some o → H0 a = some o ∨ H a = none) : LogO K HN H' lg dv lay L st := by
  obtain ⟨H1, q, h1, h2, h3⟩ := h.ex
  -- H1 with the new objects
  let H2 : Hp := fun a => if (H1 a).isSome then H1 a else HN a
  have e1 : ∀ a o, H1 a = some o → H2 a = some o := fun a o e => by show (if (H1 a).isSome then H1 a else HN a) = _; rw [e]; rfl
  have e2 : ∀ a, H1 a = none → H2 a = HN a := fun a e => by show (if (H1 a).isSome then H1 a else HN a) = _; rw [e]; rfl
  have fr := h1.frame
  have sN : Same HN H2 := fun a o e => by
    cases z : H1 a with
    | none => rw [e2 a z]; exact e
    | some u =>
      rw [e1 a u z]
      have q1 := hH _ _ (fr _ _ z)
      rw [s _ _ e] at q1
      exact q1.symm
  refine ⟨H2, q, h1.grow (fun a o e => ?_) hH (fun a o e => ?_), ⟨sN, ?_, ?_, e1 _ _ h2.g0, e1 _ _ h2.g1, h2.d01, e1 _ _ h2.p, e1 _ _ h2.sl, h2.rs.mono fun _ _ z => z.same fun a o e => e1 a o e, e1 _ _ h2.qu⟩, h3.same s0⟩
  · cases z : H1 a with
    | none => rw [e2 a z] at e; exact s _ _ e
    | some u => rw [e1 a u z] at e; cases e; exact hH _ _ (fr _ _ z)
  · cases z : H1 a with
    | none =>
      rw [e2 a z] at e
      rcases k a o e with w | w
      · rw [h2.s _ _ w] at z; cases z
      · exact .inr w
    | some u => rw [e1 a u z] at e; exact .inl e
  · cases z : HN lg with
    | none => rfl
    | some u =>
      rcases k _ _ z with w | w
      · rw [h2.n0] at w; cases w
      · rw [fr _ _ h2.g0] at w; cases w
  · cases z : HN q.cn with
    | none => rfl
    | some u =>
      rcases k _ _ z with w | w
      · rw [h2.n1] at w; cases w
      · rw [fr _ _ h2.g1] at w; cases w
end
/-- H0 and all that is new in H' since H -/
def ext (H0 H H' : Hp) : Hp := fun a => match H a with
  | none => H' a
  | some _ => H0 a
section
variable {K : PySem.W.Frag} {H0 H H' : Hp} {lg dv lay : Addr} {L : Lay} {st : St}
theorem ext_new {a : Addr} (h : H a = none) : ext H0 H H' a = H' a := by unfold ext; rw [h]
theorem ext_old (s : Same H0 H) {a : Addr} {o : HO} (h : H0 a = some o) : ext H0 H H' a = some o := by unfold ext; rw [s _ _ h]; exact h
theorem ext_same (s : Same H0 H) : Same H0 (ext H0 H H') := fun a o h => ext_old s h
theorem ext_in (s : Same H0 H) (h : Same H H') : Same (ext H0 H H') H' := fun a o e => by
  cases z : H a with
  | none => rw [ext_new z] at e; exact e
  | some u =>
    unfold ext at e
    rw [z] at e
    exact h _ _ (s _ _ e)
theorem LogO.ext (h : LogO K H0 H lg dv lay L st) (hH : Same H H') : LogO K (K30.ext H0 H H') H' lg dv lay L st :=
  h.grow (ext_same h.frame) (ext_in h.frame hH) hH fun a o e => by
    cases z : H a with
    | none => exact .inr rfl
    | some u =>
      unfold K30.ext at e
      rw [z] at e
      exact .inl e
theorem DevO.ext {d : Dev} (h : DevO K H0 H dv lay d) (hH : Same H H') : DevO K (K30.ext H0 H H') H' dv lay d :=
  h.grow (ext_in h.frame hH) hH fun a o e => by
    cases z : H a with
    | none => exact .inr rfl
    | some u =>
      unfold K30.ext at e
      rw [z] at e
      exact .inl e
end
end K30

namespace K30X
open PySem PySem.Spec PyProof.Rows L2
/-! ### enumerate(tuple): the library's words -/
open AutoSeq1 (wpAny_loadPart') in
theorem meets_enumerate_newT (l : Addr) (items : Array Value) (n : Nat) (dct : Option Addr) (sl : Array (Option Value)) :
    Meets (Builtin.«enumerate.__new__» ⟨[.type "enumerate", .ref l], []⟩) (fun _ R s => s.heap.get? l = some { cls := .type "tuple", dict := dct, data := .seq items n, slots := sl } ∧
      R (.ok (.ret (.ref (s.heap.push { cls := .type "tuple_iterator", data := .fields #[.ref l, .int 0 0] }).objs.size)))
        { s with heap := (s.heap.push { cls := .type "tuple_iterator", data := .fields #[.ref l, .int 0 0] }).push { cls := .type "enumerate", data := .fields #[.none, .bool false, .ref s.heap.objs.size, rawInt 0, .none, .none] } }) :=
  .of_wp fun prog w A R s h => by
    obtain ⟨hp, g, d, tk, os⟩ := s; obtain ⟨hl, h⟩ := h
    have hsub := sub_enumerate
    have hL : Heap.IsTuple (Shared.heap ⟨hp, g, d, tk, os⟩) l items := ⟨_, hl, rfl, n, rfl⟩
    wp_walk using wpAny_loadPart' hl
    refine wpAny_stack_any fun st => wpAny_pure ?_
    split
    · rename_i c _ _ _ _ _
      cases (c == Value.type "enumerate")
      · wp_walk using wpAny_loadPart' hl, wpAny_pyIter_tuple hL
        exact ⟨_, rfl, h⟩
      · wp_walk using wpAny_loadPart' hl, wpAny_pyIter_tuple hL
        exact ⟨_, rfl, h⟩
    · wp_walk using wpAny_loadPart' hl, wpAny_pyIter_tuple hL
      exact ⟨_, rfl, h⟩
theorem call_enumerate_tuple {prog : Program} {w : World} {A : Around} {E : Value → Shared → Prop} {s : Shared} {l : Addr} {items : Array Value} {Q : Value → Shared → Prop} (hL : s.heap.IsTuple l items)
    (h : ∀ h', IsEnum h' (s.heap.objs.size + 1) s.heap.objs.size 0 .none → h'.IsTupleIter s.heap.objs.size l 0 → h'.objs.size = s.heap.objs.size + 2 →
      (∀ b o, s.heap.get? b = some o → h'.get? b = some o) → Q (.ref (s.heap.objs.size + 1)) { s with heap := h' }) :
    wpAny (model prog w) A (call (.type "enumerate") [.ref l]) Q E s := by
  obtain ⟨⟨c, dct, dt, sl⟩, hl, hc, n, hd⟩ := hL
  replace hc : c = .type "tuple" := hc
  replace hd : dt = .seq items n := hd
  subst hc hd
  refine callType_new F.called_enumerate (by decide) (F.typeCall_enumerate_1 _) (F.newCall_enumerate_1 _) (fun obj => F.args_object_init_2 obj _) F.entry_enumerate_new
    (meets_enumerate_newT l items n dct sl) ⟨hl, ?_⟩
  have hz : (s.heap.push { cls := .type "tuple_iterator", data := .fields #[.ref l, .int 0 0] }).objs.size = s.heap.objs.size + 1 := Heap.size_push ..
  show _ ∧ _
  rw [hz]
  have he : IsEnum ((s.heap.push { cls := .type "tuple_iterator", data := .fields #[.ref l, .int 0 0] }).push
      { cls := .type "enumerate", data := .fields #[.none, .bool false, .ref s.heap.objs.size, rawInt 0, .none, .none] }) (s.heap.objs.size + 1) s.heap.objs.size 0 .none := by
    have := Heap.get?_push_size (s.heap.push { cls := .type "tuple_iterator", data := .fields #[.ref l, .int 0 0] })
      (o := { cls := .type "enumerate", data := .fields #[.none, .bool false, .ref s.heap.objs.size, rawInt 0, .none, .none] }) rfl
    rw [hz] at this; exact this
  refine ⟨⟨_, he, rfl⟩, h _ he ⟨_, Heap.get?_push_of_some _ (Heap.get?_push_size _ rfl), rfl, rfl⟩ (by rw [Heap.size_push, hz]) fun b o x => Heap.get?_push_of_some _ (Heap.get?_push_of_some _ x)⟩
theorem wpAny_pyNext_enum_endT {prog : Program} {w : World} {A : Around} {E : Value → Shared → Prop} {s : Shared} {e it l : Addr} {i : Nat} {items : Array Value} {old : Value} {Q : Option Value → Shared → Prop} (hh : A.handled = none)
    (he : IsEnum s.heap e it i old) (hit : s.heap.IsTupleIter it l i) (hl : s.heap.IsTuple l items) (hx : items[i]? = none)
    (hQ : ∀ h', Heap.ExtBut it s.heap h' → Q none { s with heap := h' }) : wpAny (model prog w) A (pyNext (.ref e)) Q E s := by
  have hT : s.TypeIs (.ref e) "enumerate" := ⟨_, he, rfl⟩
  unfold pyNext
  refine wpAny_bind (wpAny_attempt (wpAny_callSpecial?_slot (name := Str.ofString "__next__") hT F.slot_enumerate_next
    (wpAny_call_entry F.slot_enumerate_next hT F.entry_enumerate_next ?_ (F.args_enumerate_next_1 _))))
  show wpAny _ _ (field (.ref e) 2 >>= _) _ _ _
  refine wpAny_bind (wpAny_field he rfl (x := .ref it) rfl ?_)
  refine wpAny_bind (wpAny_nextOf_tuple_end hh hit hl hx fun h' x he' hx' => ?_)
  obtain ⟨o, ho, hc⟩ := hx'
  refine wpAny_bind (wpAny_isInstance (T := "StopIteration") (b := true) ⟨o, ho, hc⟩ isSubtype_stop ?_)
  exact wpAny_pure (hQ _ he')
/-! ### enumerate(tuple) -/
/-- the tuple at a, each item in a new pair -/
def Iet (K : PySem.W.Frag) (a : Addr) : It :=
  ⟨fun i H => ∃ (xs : List V) (x : V), SqT K H a xs ∧ xs[i]? = some x, fun i H v H' => ∃ T x, v = .ref T ∧ H T = none ∧ H' = upd H T (.tup [.int (i : Nat), x]) ∧ ∀ xs, SqT K H a xs → xs[i]? = some x, fun i H => ∃ xs : List V, SqT K H a xs ∧ xs.length ≤ i⟩
theorem turn_enumT {P : Program} {w : World} {K : PySem.W.Frag} {elts : List Expr} {kk : Nat} {tpos : Pos} (a e it : Addr) :
    Turn P w K (.Tuple elts kk tpos) (Iet K a) [e, it] e (fun i h => (∃ old, IsEnum h e it ((i : Nat) : Int) old) ∧ h.IsTupleIter it a i ∧ e ≠ it ∧ e ≠ a ∧ a ≠ it) where
  mem := by simp
  obj := fun i h st b hb => by
    obtain ⟨⟨old, he⟩, ⟨o, ho, hc, hd⟩, _⟩ := st
    have e' : b = e ∨ b = it := by simpa using hb
    rcases e' with z | z
    · rw [z]; exact ⟨_, he, fun v q => nomatch q⟩
    · rw [z]; exact ⟨o, ho, fun v q => by rw [hd] at q; cases q⟩
  keep := fun i h h' st k => let ⟨⟨old, he⟩, hi, hne⟩ := st; ⟨⟨old, k e (by simp) _ he⟩, hi.at fun o q => k it (by simp) o q, hne⟩
  item := by
    intro X hP hw hK hc i pins s σ H E I hf st hg
    subst hP hw hK
    obtain ⟨⟨old, he⟩, hit, hne, hea, hai⟩ := st
    obtain ⟨xs, x, hq, hx⟩ := hg
    obtain ⟨its, rv, p, hz⟩ := I.tuple hq
    obtain ⟨u, hu, ru⟩ := rv.get hx
    have hel : e < s.heap.objs.size := Heap.lt_size he
    have hil : it < s.heap.objs.size := by obtain ⟨_, q, _⟩ := hit; exact Heap.lt_size q
    have hlt : i < its.toArray.size := by
      have := (List.getElem?_eq_some_iff.mp hu).1
      simpa using this
    refine wpAny_pyNext_enum_itemD (Draws.tuple (prog := X.prog) (w := X.w) (A := X.A.in1) (I.ok.hd hc) it a hai its.toArray) he ⟨hit, p⟩ hlt hne (by simp [hne, hea]) fun x' h' tk px ho st' hT hsz hk => ?_
    have ex : x' = u := by
      rw [show its.toArray[i]? = its[i]? by simp, hu] at px
      exact (Option.some.inj px).symm
    subst ex
    refine ⟨_, rfl, wpAny_letOwnedTupleGo_enum (s := { s with heap := h', toks := tk + 1 }) ho fun h'' he' sb => ?_⟩
    have hT2 : h''.get? s.heap.objs.size = some { cls := .type "tuple", data := .seq #[.int i tk, x'] } := (sb.2 _ (Nat.ne_of_gt hel)).trans hT
    have new : ObjOk X.prog X.w (upd H s.heap.objs.size (.tup [.int (i : Nat), x])) h'' s.heap.objs.size (.tup [.int (i : Nat), x]) :=
      ⟨by show 2 ≤ sizeLine; decide, [.int i tk, x'], .cons ⟨_, rfl⟩ (.cons ru .nil), ⟨_, hT2, rfl, _, rfl⟩⟩
    have I1 : Inv X pins σ (upd H s.heap.objs.size (.tup [.int (i : Nat), x])) { s with heap := h'', toks := tk + 1 } :=
      I.turnedNew (ch := [e, it]) (fun b ob hb q => (sb.2 b (fun z => hb (by simp [z]))).trans (hk b ob (fun z => hb (by simp [z])) (fun z => hb (by simp [z])) q)) hf (Nat.le_refl _) new
    refine ⟨.ref s.heap.objs.size, _, I1, rfl, ⟨_, x, rfl, I.hok.fresh (Nat.le_refl _), rfl, fun ys hy => by rw [I.tuple_inj hy hq]; exact hx⟩, ⟨⟨x', ?_⟩, st'.1.at fun o q => (sb.2 it (Ne.symm hne)).trans q, hne, hea, hai⟩, fun b hb => ?_⟩
    · have e1 : ((i + 1 : Nat) : Int) = (i : Int) + 1 := by omega
      rw [e1]; exact he'
    · have hb' : b < s.heap.objs.size := by
        have e' : b = e ∨ b = it := by simpa using hb
        rcases e' with z | z
        · rw [z]; exact hel
        · rw [z]; exact hil
      rw [upd_ne (Nat.ne_of_lt hb')]
      exact (hf b hb).1
  done := by
    intro X hP hw hK hc i pins s σ H E I hf st hg
    subst hP hw hK
    obtain ⟨⟨old, he⟩, hit, hne, hea, hai⟩ := st
    obtain ⟨xs, hq, hx⟩ := hg
    obtain ⟨its, rv, p, hz⟩ := I.tuple hq
    obtain ⟨f0, f1, f2, f3, f4, f5⟩ := hf it (by simp)
    have hl := rv.length
    exact wpAny_pyNext_enum_endT (I.ok.hd hc) he hit p (by simp; omega) fun h' eb => ⟨rfl, I.turned (t' := s.toks) (fun b o hb q => eb b o hb q) f0 f1 f3 f4 f5⟩
  self := fun A i s Q E st h => let ⟨⟨_, he⟩, _⟩ := st; wpAny_pyIter_enum he h
def iEnumT (K : PySem.W.Frag) (ta : TA) : TI := fun σ H R => ta σ H fun vs H1 => ∃ a xs, vs = [.ref a] ∧ SqT K H1 a xs ∧ R (Iet K a) H1
theorem pi_enumT {X : Cx} {e : Expr} {ta : TA} {p pos tpos : Pos} {elts : List Expr} {kk : Nat} (hg : Gl X "enumerate") (hm : X.mg "enumerate" = none) (ha : PA X [e] ta) (hs : starEach [e] X.env = [(false, eval e X.env)] := by rfl) :
    PI X (.Tuple elts kk tpos) (.Call (.Name "enumerate" p) [e] [] pos) (iEnumT X.K ta) := by
  refine ⟨fun pins s σ H R I h => ?_⟩
  refine Call_ (ld_blt I hg hm boot_enumerate (PyProof.Rows.callWith_type1 (thn (ha.run pos pins s σ H _ I h) fun us s1 ⟨vs, H1, I1, r1, q1⟩ => ?_) hs rfl))
  obtain ⟨a, xs, ex, hq, q⟩ := q1
  subst ex
  cases r1 with
  | cons r rr =>
    cases rr
    cases r
    obtain ⟨its, rv, p', hz⟩ := I1.tuple hq
    refine call_enumerate_tuple p' fun h' he hit hsz hk => wpAny_pyIter_enum he ?_
    have I2 : Inv X pins σ H1 { s1 with heap := h' } := I1.kept (t' := s1.toks) hk
    have hal : a < s1.heap.objs.size := p'.lt
    refine ⟨s1.heap.objs.size + 1, [s1.heap.objs.size + 1, s1.heap.objs.size], _, _, H1, rfl, I2, turn_enumT a (s1.heap.objs.size + 1) s1.heap.objs.size, ⟨⟨.none, he⟩, hit, Nat.succ_ne_self _, Nat.ne_of_gt (Nat.lt_succ_of_lt hal), Nat.ne_of_lt hal⟩, fun b hb => ?_, q⟩
    have e' : b = s1.heap.objs.size + 1 ∨ b = s1.heap.objs.size := by simpa using hb
    have hle : s1.heap.objs.size ≤ b := by
      rcases e' with z | z
      · rw [z]; exact Nat.le_add_right _ _
      · rw [z]; exact Nat.le_refl _
    exact I1.fpOk hle (I1.hok.fresh hle)
theorem walk_enumT {K : PySem.W.Frag} {a : Addr} {xs : List V} : Walk (Iet K a) xs.length (fun H => SqT K H a xs) (YPair (fun i => some (.int (i : Nat))) (fun i => xs[i]?)) := by
  refine ⟨fun i _ hi q => ⟨xs, xs[i], q, by simp [hi]⟩, fun _ q => ⟨xs, q, Nat.le_refl _⟩, fun i H v H' _ q y => ?_⟩
  obtain ⟨T, x, h1, h2, h3, h4⟩ := y
  exact ⟨T, .int (i : Nat), x, h1, h2, h3, rfl, h4 xs q⟩
/-! ### e.f = .. as a target -/
def gFld (K : PySem.W.Frag) (ta : TE) (f : Str) : TG := fun v σ H Q => ta σ H fun x H1 => ∃ a C dx fs, x = .ref a ∧ H1 a = some (.ins C dx fs) ∧ Cls K C ∧ NoAttr K C f ∧ fs.length < 1000 ∧ Q σ (upd H1 a (.ins C dx (putF f v fs)))
theorem pg_fld {X : Cx} {o : Expr} {f : Str} {pos : Pos} {ta : TE} (ha : PE X o ta) : PG X (.Attribute o f pos) (gFld X.K ta f) := by
  refine ⟨fun pins s σ H v u Q I r h => ?_⟩
  rw [assign_Attribute]
  refine wpAny_bind (wpAny_holding (thn (ha.run pins s σ H _ I h) fun ov s1 ⟨x, H1, I1, rx, a, C, dx, fs, ex, ea, c, n, l, q⟩ => ?_))
  subst ex
  obtain rfl : ov = Value.ref a := rx
  refine wpAny_bind (wpAny_standAt (wpAny_bind (wpAny_holding (setattr_ok I1 ea c n l r fun s2 I2 => ?_))))
  exact wpAny_release ⟨σ, _, I2, q⟩
/-! ### xs.extend(t), t a tuple -/
def rExtendT (K : PySem.W.Frag) : V → List V → Hp → VK → Prop := fun x vs H Q => ∃ l b xs zs, x = .ref l ∧ vs = [.ref b] ∧ H l = some (.lst xs) ∧ H b = some (.tup zs) ∧ xs.length + zs.length ≤ sizeLine ∧ Q .non (upd H l (.lst (xs ++ zs)))
open AutoSeq1 in
theorem list_extend_tuple (l : Addr) (items : Array Value) (n : Nat) (b : Addr) (items2 : Array Value) (n2 : Nat) (dd : Option Addr) (sl : Array (Option Value)) (hs0 : ¬(!items.isEmpty && Builtin.List.listTooLong (items.size + items2.size)) = true) (hs1 : items.size ≤ sizeLine) (hs2 : items.size + items2.size ≤ sizeLine + 1) :
    Meets (Builtin.«list.extend» ⟨[.ref l, .ref b], []⟩) (fun _ R s => s.heap.get? l = some { cls := .type "list", dict := none, data := .seq items n, slots := #[] } ∧ s.heap.get? b = some { cls := .type "tuple", dict := dd, data := .seq items2 n2, slots := sl } ∧ R (.ok (.ret Value.none)) { s with heap := s.heap.update l (Obj.mapSeq fun x => x ++ items2), toks := s.toks }) :=
  .of_wp fun prog w A R s h => by
    obtain ⟨hp, g, d, tk, os⟩ := s; obtain ⟨hl, hb, h⟩ := h; have f1 := idx_int; have f2 := AutoSeq1.sub_tuple_tuple; have f3 := AutoSeq1.sub_list_list; have f4 := AutoSeq1.sub_tuple_list; have f5 := AutoSeq1.sub_list_tuple;
    have hz' : (items ++ items2).size ≤ sizeLine + 1 := by rw [Array.size_append]; exact hs2
    wp_walk using (wpAny_updateSeq hl rfl (hz := hs1) (_hz' := hz')), wpAny_loadPart' hl, wpAny_loadPart' hb; exact ⟨_, rfl, h⟩
theorem mt_extendT {X : Cx} : MtM X "list.extend" (rExtendT X.K) := by
  intro pins s σ H x vs v us Q I rx rv h
  obtain ⟨l, b, xs, zs, rfl, rfl, hH, hB, hz, q⟩ := h
  cases rx
  obtain ⟨u, rfl, ru⟩ := rv.one
  cases ru
  obtain ⟨z, its, n, r, hl, e⟩ := I.lstM hH
  obtain ⟨its2, r2, ⟨⟨c2, dd, dt, sl⟩, e2, hc, n2, hd⟩, hl2⟩ := I.tuple (SqT.of hB)
  replace hc : c2 = .type "tuple" := hc
  replace hd : dt = .seq its2.toArray n2 := hd
  subst hc hd
  have l2 : its2.length = zs.length := r2.length.symm
  have hsz : its.toArray.size + its2.toArray.size ≤ sizeLine := by rw [List.size_toArray, List.size_toArray]; omega
  have hlong : ¬ (!its.toArray.isEmpty && Builtin.List.listTooLong (its.toArray.size + its2.toArray.size)) = true := by
    rw [notLongL hsz, Bool.and_false]
    exact Bool.false_ne_true
  refine call_meets F.slot_list_extend ⟨_, e, rfl⟩ F.entry_list_extend (F.args_list_extend_2 _ _)
    (list_extend_tuple l its.toArray n b its2.toArray n2 dd sl hlong (by rw [List.size_toArray]; omega) (by omega)) ⟨e, e2, ?_⟩
  refine ⟨.non, _, I.lset (its' := its ++ its2) hH e (by simp) (r.append r2) ?_, rfl, q⟩
  rw [List.length_append]
  omega
/-! ### C(), by its __init__ -/
theorem pe_mk0 {X : Cx} {k j : Nat} {C : Addr} {x : Str} {sp : Sp} {dvs : List V} {p pos : Pos} (c : C8.Mak X.prog X.w X.K X.mg X.base k x C sp dvs) (hr : Room j X.A) (hk : k + 1 ≤ j) (hg : Gl X x) (hdb : (x == ("__debug__" : Str)) = false := by decide) :
    PE X (.Call (.Name x p) [] [] pos) (tMake C sp dvs E0 tNil) := by
  obtain ⟨f, fd, ps, ds, M, F, hm, b, d⟩ := c.ex
  exact pe_make0 M F (hr.mono hk) hg hm b d pass0 hdb
end K30X
namespace K30X
open PySem PySem.Spec PyProof.Rows L2
/-! ### tuple * int, 0 and 1 too -/
theorem tuple_mul1 (l : Addr) (items : Array Value) (n : Nat) (dd : Option Addr) (sl : Array (Option Value)) (u : Tok) :
    Meets (Builtin.«tuple.__mul__» ⟨[.ref l, .int 1 u], []⟩) (fun _ R s => s.heap.get? l = some { cls := .type "tuple", dict := dd, data := .seq items n, slots := sl } ∧ R (.ok (.ret (Value.ref l))) s) :=
  .of_wp fun prog w A R s h => by
    obtain ⟨hp, g, d, tk, os⟩ := s
    obtain ⟨hl, h⟩ := h
    have f1 := AutoSeq1.idx_int
    wp_walk using AutoSeq1.wpAny_loadPart' hl
    repeat (first
      | (refine wpAny_ite_true (by simp) ?_; wp_walk using AutoSeq1.wpAny_loadPart' hl)
      | (refine wpAny_ite_false (by decide) ?_; wp_walk using AutoSeq1.wpAny_loadPart' hl))
    exact ⟨_, rfl, h⟩
theorem tuple_mul0 (l : Addr) (items : Array Value) (n : Nat) (dd : Option Addr) (sl : Array (Option Value)) (u : Tok) (hne : items.isEmpty = false) :
    Meets (Builtin.«tuple.__mul__» ⟨[.ref l, .int 0 u], []⟩) (fun _ R s => s.heap.get? l = some { cls := .type "tuple", dict := dd, data := .seq items n, slots := sl } ∧
      R (.ok (.ret (Value.ref s.heap.objs.size))) { s with heap := s.heap.push { cls := Value.type "tuple", data := Data.seq #[] }, toks := s.toks }) :=
  .of_wp fun prog w A R s h => by
    obtain ⟨hp, g, d, tk, os⟩ := s
    obtain ⟨hl, h⟩ := h
    have f1 := AutoSeq1.idx_int
    wp_walk using AutoSeq1.wpAny_loadPart' hl
    repeat (first
      | (refine wpAny_ite_false (by rw [hne]; decide) ?_; wp_walk using AutoSeq1.wpAny_loadPart' hl)
      | (refine wpAny_ite_true (by simp) ?_; wp_walk using AutoSeq1.wpAny_loadPart' hl)
      | (refine wpAny_ite_false (by decide) ?_; wp_walk using AutoSeq1.wpAny_loadPart' hl))
    exact ⟨_, rfl, h⟩
def rRepA (K : PySem.W.Frag) : R2 := fun x y H Q => ∃ l k xs, x = .ref l ∧ y = .int k ∧ SqT K H l xs ∧ xs ≠ [] ∧ 0 ≤ k ∧ k ≤ 1000 ∧ xs.length ≤ 1000 ∧ (k = 1 → Q (.ref l) H) ∧ (k ≠ 1 → ∀ p, H p = none → Q (.ref p) (upd H p (.tup (List.replicate k.toNat xs).flatten)))
theorem op_repA {X : Cx} : OpR X (binaryOp .Mult) (rRepA X.K) := by
  intro pins s σ H x y v u Q I rx ry h
  obtain ⟨l, k, xs, rfl, rfl, hT, hne, h0, h2, hz, q1, q2⟩ := h
  by_cases h1 : 2 ≤ k
  · exact op_repT pins s σ H _ _ v u Q I rx ry ⟨l, k, xs, rfl, rfl, hT, hne, h1, h2, hz, q2 (by omega)⟩
  · cases rx
    obtain ⟨t, rfl⟩ := ry
    obtain ⟨its, r, ⟨⟨cls, dd, data, sl⟩, ho, hc, n, hd⟩, hs⟩ := I.tuple hT
    simp only at hc hd
    subst hc hd
    have hle : its.length = xs.length := r.length.symm
    have hn : its ≠ [] := fun e => hne (by
      rw [e] at hle
      exact List.eq_nil_of_length_eq_zero hle.symm)
    have hi : its.toArray.isEmpty = false := by
      cases its with
      | nil => exact absurd rfl hn
      | cons a b => rfl
    by_cases e1 : k = 1
    · subst e1
      refine wpAny_binaryOp_repeat_ref (T := "tuple") (U := "int") (by decide) ⟨_, ho, rfl⟩ (fun s' => typeIs_int s' 1 t) noFill_tuple_mul F.fills_int_mul F.slot_int_rmul repeat_tuple F.slot_int_index.lookup
        (call_meets F.slot_int_rmul (typeIs_int s 1 t) F.entry_int_rmul (F.args_int_rmul_2 _ _) (int_rmul_tuple 1 t l its.toArray n dd sl)
          ⟨ho, rfl, ⟨_, ho, rfl⟩, call_meets F.slot_tuple_mul ⟨_, ho, rfl⟩ F.entry_tuple_mul (F.args_tuple_mul_2 _ _) (tuple_mul1 l its.toArray n dd sl t) ⟨ho, ?_⟩⟩)
      exact ⟨.ref l, H, I, rfl, q1 rfl⟩
    · have e0 : k = 0 := by omega
      subst e0
      refine wpAny_binaryOp_repeat_ref (T := "tuple") (U := "int") (by decide) ⟨_, ho, rfl⟩ (fun s' => typeIs_int s' 0 t) noFill_tuple_mul F.fills_int_mul F.slot_int_rmul repeat_tuple F.slot_int_index.lookup
        (call_meets F.slot_int_rmul (typeIs_int s 0 t) F.entry_int_rmul (F.args_int_rmul_2 _ _) (int_rmul_tuple 0 t l its.toArray n dd sl)
          ⟨ho, rfl, ⟨_, ho, rfl⟩, call_meets F.slot_tuple_mul ⟨_, ho, rfl⟩ F.entry_tuple_mul (F.args_tuple_mul_2 _ _) (tuple_mul0 l its.toArray n dd sl t hi) ⟨ho, ?_⟩⟩)
      refine ⟨.ref s.heap.objs.size, _, I.laid (t' := s.toks) (o := .tup (List.replicate (0 : Int).toNat xs).flatten) (fun b ob q => Heap.get?_push_of_some _ q) (Nat.le_refl _) ?_, rfl, q2 e1 _ (I.hok.fresh (Nat.le_refl _))⟩
      exact ⟨by show 0 ≤ sizeLine; exact Nat.zero_le _, [], .nil, IsTup.new _ _⟩
end K30X
namespace K30X
open PySem PySem.Spec PyProof.Rows L2
/-! ### sorted(d), keys ints, any number -/
def rSortedDA : List V → Hp → VK → Prop := fun xs H Q => ∃ (a : Addr) (kvs : List (Key × V)) (ks : List Int), xs = [.ref a] ∧ Rd H a (.dK kvs) ∧ kvs.map (·.1) = ks.map Sum.inl ∧ ks.length ≤ 100000 ∧
    ∀ (ys : List Int) (p : Addr), ys.Perm ks → ys.Pairwise (· ≤ ·) → H p = none → Q (.ref p) (upd H p (.lst (ys.map V.int)))
theorem call_sortedDA {X : Cx} (hcalm : X.calm = true) : CallR X (.builtin "sorted") rSortedDA := by
  intro pins s σ H xs us Q I r q
  obtain ⟨a, kvs, ks, ex, hd, hks, h64, q⟩ := q
  subst ex
  obtain ⟨u, eu, rx⟩ := vals1 r
  subst eu
  cases rx
  obtain ⟨z, lo, vs, rel, dd⟩ := dk_rd I.hok hd
  obtain ⟨ep, hat⟩ := dd.dictAt
  have hkeys : vs.map (·.1) = ks.map Sum.inl := rel.keys.symm.trans hks
  have hl : vs.length = ks.length := by
    have e := congrArg List.length hkeys
    rw [List.length_map, List.length_map] at e
    exact e
  have h16 : vs.length ≤ sizeLine := by rw [hl, sizeLine_eq]; omega
  refine Calls.call_function_entry PyProof.Rows.kind_sorted PyProof.Rows.plain_sorted PyProof.Rows.entry_sorted (PyProof.Rows.args_sorted1 _) ?_
  unfold Builtin.«sorted»
  refine wpAny_bind (m := checkCount "sorted" 1 1 _) (wpAny_pure ?_)
  refine wpAny_bind (PySem.W.kdu_collect (A := X.A.in1) (PySem.W.kdl_dict (knd := mixKind X.prog X.w) (kvs := vs) (ep := ep) lo) (I.ok.hd hcalm) hat h16 fun h' tk acc hk hacc => ?_)
  have hal : acc.toList.length = ks.length := by rw [Array.length_toList, hacc.1, hl]
  have hS : IntsAre acc.toList ks := ints_each hal fun j v e => by
    obtain ⟨k, x, e1, e2⟩ := hacc.2 j v (by rw [← Array.getElem?_toList]; exact e)
    have e3 : (vs.map (·.1))[j]? = some k := by rw [List.getElem?_map, e1]; rfl
    rw [hkeys, List.getElem?_map] at e3
    cases e4 : ks[j]? with
    | none => rw [e4] at e3; cases e3
    | some y =>
      rw [e4] at e3
      have e5 : Sum.inl y = k := Option.some.inj e3
      subst e5
      rcases keyIs_shape (show keyIs (Sum.inl y) v = true from e2) with ⟨i, t, ek, ev⟩ | ⟨z, t, ek, ev⟩
      · cases ek
        exact ⟨y, t, rfl, ev⟩
      · cases ek
  have I1 : Inv X pins σ H { s with heap := h', toks := tk } := I.kept hk
  refine wpAny_bind (wpAny_newList ?_ (by rw [hal, sizeLine_eq]; omega))
  have hoL : (h'.push (seqObj "list" acc.toList.toArray 0)).get? h'.objs.size = some (seqObj "list" acc.toList.toArray 0) := Heap.get?_push_size _ rfl
  show wpAny _ _ _ _ _ { s with heap := h'.push (seqObj "list" acc.toList.toArray 0), toks := tk }
  refine wpAny_bind (wpAny_holding (wpAny_call_entry PyProof.Rows.slot_list_sort ⟨_, hoL, rfl⟩ PyProof.Rows.entry_list_sort
    (SrtO.list_sort_ord (s := { s with heap := h'.push (seqObj "list" acc.toList.toArray 0), toks := tk }) SrtO.swo_int hoL (by rw [hal, sizeLine_eq]; omega) (fun h2 => SrtO.ints_sortable hS h2) fun out h1 h2 => ⟨_, rfl, ?_⟩) (PyProof.Rows.args_list_sort _)))
  obtain ⟨k1, k2, k3⟩ := SrtO.ints_out hS h1 h2
  obtain ⟨e', he'⟩ := PyProof.Rows.sortedHeap_at (vs := acc.toList) (out := out.toArray) hoL
  have hlen : ((out.map SrtO.iv).map V.int).length ≤ sizeLine := by
    rw [List.length_map, k2.length_eq, sizeLine_eq]
    omega
  refine wpAny_pure ⟨_, rfl, .ref h'.objs.size, upd H h'.objs.size (.lst ((out.map SrtO.iv).map V.int)), I1.laid (t' := tk) (fun b u e => ?_) (Nat.le_refl _)
    (show ObjOk X.prog X.w _ _ _ (.lst ((out.map SrtO.iv).map V.int)) from ⟨hlen, out, e', vals_of_ints k1, he'⟩), rfl, q _ _ k2 k3 (I1.hok.fresh (Nat.le_refl _))⟩
  have hb : b < h'.objs.size := Heap.lt_size e
  rw [PyProof.Rows.sortedHeap_old (Nat.ne_of_lt hb) (by rw [size_push']; exact Nat.lt_succ_of_lt hb)]
  exact Heap.get?_push_of_some _ e
end K30X
namespace K30X
open PySem PySem.Spec PyProof.Rows L2
/-! ### rules whose reading names K, for a comprehension's block -/
section
variable {X : Cx} {K : PySem.W.Frag}
theorem pe_fldK {e : Expr} {f : Str} {pos : Pos} {ta : TE} (h : X.K = K) (he : PE X e ta) (hb : attributeBase e f X.env (eval e X.env) = eval e X.env) : PE X (.Attribute e f pos) (tFld K ta f) := h ▸ pe_fld he hb
theorem ixL_K (h : X.K = K) : IxR X (rIxL K) := h ▸ ix_list
theorem ixT_K (h : X.K = K) : IxR X (rIxT K) := h ▸ ix_tup
theorem in_K (h : X.K = K) : OpR X (compareOp .In) (rIn K false) := h ▸ op_in_seq
theorem notIn_K (h : X.K = K) : OpR X (compareOp .NotIn) (rIn K true) := h ▸ op_notIn_seq
theorem pg_tupK {es : List Expr} {k : Nat} {pos : Pos} {t : TGs} {n : Nat} (hK : X.K = K) (hc : X.calm = true) (h : PGs X es t)
    (hn : (assignEach es X.env).length = n := by rfl) (hst : (assignEach es X.env).findIdx? (·.1) = none := by rfl) : PG X (.Tuple es k pos) (gTup K n t) := hK ▸ pg_tup hc h hn hst
def rLenK (K : PySem.W.Frag) : List V → Hp → VK → Prop := fun xs H Q => ∃ p ys, xs = [.ref p] ∧ (SqL K H p ys ∨ SqT K H p ys) ∧ Q (.int (ys.length : Int)) H
theorem len_K (h : X.K = K) : CallR X (.builtin "len") (rLenK K) := h ▸ call_len_seq
def rListK (K : PySem.W.Frag) : List V → Hp → VK → Prop := fun xs H Q => ∃ p ys, xs = [.ref p] ∧ (SqL K H p ys ∨ SqT K H p ys) ∧ ∀ l, H l = none → Q (.ref l) (upd H l (.lst ys))
theorem list_K (h : X.K = K) : CallR X (.type "list") (rListK K) := h ▸ call_list_of
end
end K30X
namespace K30X
open PySem PySem.Spec PyProof.Rows L2
/-! ### sleeping generators stay as they are while nothing wakes them -/
section
open Sem (wp)
def GenState.slp : GenState → Bool
  | .suspended .. => true
  | _ => false
/-- the same, but nothing may wake it -/
def poison : GenState → GenState
  | .suspended _ l c p fs cl => .suspended (fun _ => .unsupported "") l c p fs cl
  | x => x
theorem poison_seen (x : GenState) : (poison x).seen = x.seen := by cases x <;> rfl
theorem poison_bare (x : GenState) : (poison x).bare = x.bare := by cases x <;> rfl
def NoG : GenState → Prop
  | .suspended _ _ _ _ fs _ => splitAtGen fs = none
  | _ => True
def NoGE : End → Prop
  | .susp _ _ _ _ _ _ fs => splitAtGen fs = none
  | _ => True
/-- m: the table at the start; G: the poisoned one; G': the real one -/
structure Rl (m G G' : Array GenState) : Prop where
  sz : G.size = G'.size
  at_ : ∀ i : Nat, (∃ x, m[i]? = some x ∧ GenState.slp x = true ∧ G'[i]? = some x ∧ G[i]? = some (poison x)) ∨
    ((∀ x, m[i]? = some x → GenState.slp x = false) ∧ G[i]? = G'[i]? ∧ ∀ x, G'[i]? = some x → NoG x)
theorem Rl.start (m : Array GenState) : Rl m (m.map poison) m := by
  refine ⟨by simp, fun i => ?_⟩
  cases e : m[i]? with
  | none => exact .inr ⟨fun x h => (by cases h), by simp [e], fun x h => (by simp [e] at h)⟩
  | some x =>
    cases hs : GenState.slp x with
    | true => exact .inl ⟨x, rfl, hs, rfl, by simp [e]⟩
    | false =>
      refine .inr ⟨fun y h => by cases h; exact hs, ?_, fun y h => by cases h; cases x <;> first | trivial | cases hs⟩
      rw [Array.getElem?_map, e]
      cases x <;> first | rfl | cases hs
theorem Rl.set {m G G' : Array GenState} (r : Rl m G G') {g : Nat} {y : GenState} (hm : ∀ x, m[g]? = some x → GenState.slp x = false) (hy : NoG y) : Rl m (G.setIfInBounds g y) (G'.setIfInBounds g y) := by
  refine ⟨by simp [r.sz], fun i => ?_⟩
  by_cases e : g = i
  · subst e
    refine .inr ⟨hm, ?_, fun x h => ?_⟩
    · rw [Array.getElem?_setIfInBounds, Array.getElem?_setIfInBounds, if_pos rfl, if_pos rfl, r.sz]
    · rw [Array.getElem?_setIfInBounds, if_pos rfl] at h
      split at h
      · cases h; exact hy
      · cases h
  · rw [Array.getElem?_setIfInBounds, Array.getElem?_setIfInBounds, if_neg e, if_neg e]
    exact r.at_ i
theorem Rl.push {m G G' : Array GenState} (r : Rl m G G') (c : Code) (hm : m.size ≤ G.size) : Rl m (G.push (.fresh c)) (G'.push (.fresh c)) := by
  refine ⟨by simp [r.sz], fun i => ?_⟩
  rw [Array.getElem?_push, Array.getElem?_push, r.sz]
  by_cases e : i = G'.size
  · rw [if_pos e, if_pos e]
    refine .inr ⟨fun x h => ?_, rfl, fun x h => by cases h; trivial⟩
    have := (Array.getElem?_eq_some_iff.mp h).1
    have := r.sz
    omega
  · rw [if_neg e, if_neg e]; exact r.at_ i
theorem no_unsup0 {M : Model} {Γ : PySem.Ctx} {p : Pos} {w : String} {s s' : Shared} {e : End} : ¬ Runs M Γ p (.unsupported w) [] s e s' := fun h => by cases h
theorem no_unsup {M : Model} {Γ : PySem.Ctx} {p : Pos} {w : String} {fs : List Frame} {s s' : Shared} {e : End} : ¬ Runs M Γ p (.unsupported w) fs s e s' := fun h => by
  cases h with
  | segRet a _ => exact no_unsup0 a
  | segGen a _ => exact no_unsup0 a
  | segSuspOut _ a => exact no_unsup0 a
  | segSuspGen _ a _ _ => exact no_unsup0 a
theorem split_cons {F : Frame} {fs : List Frame} (h : splitAtGen (F :: fs) = none) : splitAtGen fs = none := by
  cases F with
  | gen => cases h
  | ret =>
    have h' : (splitAtGen fs).map _ = none := h
    cases e : splitAtGen fs with
    | none => rfl
    | some z => rw [e] at h'; cases h'
theorem split_app {a b : List Frame} (ha : splitAtGen a = none) (hb : splitAtGen b = none) : splitAtGen (a ++ b) = none := by
  induction a with
  | nil => exact hb
  | cons F fs ih =>
    have q := split_cons ha
    cases F with
    | gen => cases ha
    | ret =>
      show (splitAtGen (fs ++ b)).map _ = none
      rw [ih q]; rfl
theorem NoG_of {e : End} (h : NoGE e) : NoG e.genState := by
  cases e with
  | ret => trivial
  | susp => exact h
/-- what stays: the sizes grow -/
structure Rk (m G G' : Array GenState) : Prop extends Rl m G G' where
  le : m.size ≤ G.size
theorem Rk.set {m G G' : Array GenState} (r : Rk m G G') {g : Nat} {y : GenState} (hm : ∀ x, m[g]? = some x → GenState.slp x = false) (hy : NoG y) : Rk m (G.setIfInBounds g y) (G'.setIfInBounds g y) :=
  ⟨r.toRl.set hm hy, by have := r.le; simp; omega⟩
theorem Rk.push {m G G' : Array GenState} (r : Rk m G G') (c : Code) : Rk m (G.push (.fresh c)) (G'.push (.fresh c)) := ⟨r.toRl.push c r.le, by have := r.le; simp; omega⟩
theorem Rk.plain {m G G' : Array GenState} (r : Rk m G G') {g : Nat} {x : GenState} (h : G[g]? = some x) (hx : GenState.slp x = false) : (∀ x, m[g]? = some x → GenState.slp x = false) ∧ G'[g]? = some x := by
  rcases r.at_ g with ⟨y, h1, h2, h3, h4⟩ | ⟨h1, h2, h3⟩
  · rw [h] at h4
    cases h4
    cases y <;> first | (cases h2; done) | (cases hx; done)
  · exact ⟨h1, h2 ▸ h⟩
theorem runs_pz {M : Model} {Γ : PySem.Ctx} {p : Pos} {t : Sem PySem.Fin} {fs : List Frame} {s s' : Shared} {e : End} (h : Runs M Γ p t fs s e s') :
    ∀ (m G' : Array GenState), splitAtGen fs = none → Rk m s.gens G' → ∃ G'', Rk m s'.gens G'' ∧ Runs M Γ p t fs { s with gens := G' } e { s' with gens := G'' } ∧ NoGE e := by
  induction h with
  | done => intro m G' _ r; exact ⟨G', r, .done, trivial⟩
  | raise => intro m G' _ r; exact ⟨G', r, .raise, trivial⟩
  | again q _ ih => intro m G' hf r; obtain ⟨G2, r2, x, n⟩ := ih m G' hf r; exact ⟨G2, r2, .again q x, n⟩
  | rule _ ih => intro m G' hf r; obtain ⟨G2, r2, x, n⟩ := ih m G' hf r; exact ⟨G2, r2, .rule x, n⟩
  | «at» _ ih => intro m G' hf r; obtain ⟨G2, r2, x, n⟩ := ih m G' hf r; exact ⟨G2, r2, .at x, n⟩
  | load ho _ ih => intro m G' hf r; obtain ⟨G2, r2, x, n⟩ := ih m G' hf r; exact ⟨G2, r2, .load ho x, n⟩
  | update ho _ ih => intro m G' hf r; obtain ⟨G2, r2, x, n⟩ := ih m G' hf r; exact ⟨G2, r2, .update ho x, n⟩
  | loadIfAlive _ ih => intro m G' hf r; obtain ⟨G2, r2, x, n⟩ := ih m G' hf r; exact ⟨G2, r2, .loadIfAlive x, n⟩
  | point _ ih => intro m G' hf r; obtain ⟨G2, r2, x, n⟩ := ih m G' hf r; exact ⟨G2, r2, .point x, n⟩
  | alloc _ ih => intro m G' hf r; obtain ⟨G2, r2, x, n⟩ := ih m G' hf r; exact ⟨G2, r2, .alloc x, n⟩
  | fresh _ ih => intro m G' hf r; obtain ⟨G2, r2, x, n⟩ := ih m G' hf r; exact ⟨G2, r2, .fresh x, n⟩
  | ask _ ih => intro m G' hf r; obtain ⟨G2, r2, x, n⟩ := ih m G' hf r; exact ⟨G2, r2, .ask x, n⟩
  | choose hn _ ih => intro m G' hf r; obtain ⟨G2, r2, x, n⟩ := ih m G' hf r; exact ⟨G2, r2, .choose hn x, n⟩
  | os _ ih => intro m G' hf r; obtain ⟨G2, r2, x, n⟩ := ih m G' hf r; exact ⟨G2, r2, .os x, n⟩
  | handled _ ih => intro m G' hf r; obtain ⟨G2, r2, x, n⟩ := ih m G' hf r; exact ⟨G2, r2, .handled x, n⟩
  | stack _ ih => intro m G' hf r; obtain ⟨G2, r2, x, n⟩ := ih m G' hf r; exact ⟨G2, r2, .stack x, n⟩
  | thread _ ih => intro m G' hf r; obtain ⟨G2, r2, x, n⟩ := ih m G' hf r; exact ⟨G2, r2, .thread x, n⟩
  | @genState _ _ _ _ _ _ _ st hg _ ih =>
    intro m G' hf r
    obtain ⟨G2, r2, x, n⟩ := ih m G' hf r
    rcases r.at_ _ with ⟨y, h1, h2, h3, h4⟩ | ⟨h1, h2, h3⟩
    · rw [hg] at h4
      cases h4
      rw [poison_seen] at x
      exact ⟨G2, r2, .genState h3 x, n⟩
    · exact ⟨G2, r2, .genState (h2 ▸ hg) x, n⟩
  | newGen _ ih =>
    intro m G' hf r
    obtain ⟨G2, r2, x, n⟩ := ih m _ hf (r.push _)
    refine ⟨G2, r2, .newGen ?_, n⟩
    rw [show ({ (_ : Shared) with gens := G' } : Shared).gens.size = _ from r.sz.symm]
    exact x
  | call _ _ ih1 ih2 =>
    intro m G' hf r
    obtain ⟨G2, r2, x2, n2⟩ := ih1 m G' rfl r
    obtain ⟨G3, r3, x3, n3⟩ := ih2 m G2 rfl r2
    exact ⟨G3, r3, .call x2 x3, n3⟩
  | callSusp _ ih =>
    intro m G' hf r
    obtain ⟨G2, r2, x, n⟩ := ih m G' rfl r
    exact ⟨G2, r2, .callSusp x, split_app n rfl⟩
  | yield => intro m G' _ r; exact ⟨G', r, .yield, rfl⟩
  | resumeFresh hg _ hq _ ih1 ih2 =>
    intro m G' hf r
    obtain ⟨hm, hg'⟩ := r.plain hg rfl
    obtain ⟨G2, r2, x2, n2⟩ := ih1 m _ rfl (r.set (y := .running) hm trivial)
    obtain ⟨G3, r3, x3, n3⟩ := ih2 m _ rfl (r2.set hm (NoG_of n2))
    exact ⟨G3, r3, .resumeFresh hg' x2 hq x3, n3⟩
  | @resumeSuspended Γ p g rr l k s k₀ l₀ c₀ p₀ fs cl e₁ s₁ e s' hg h1 hq h2 ih1 ih2 =>
    intro m G' hf r
    rcases r.at_ g with ⟨y, q1, q2, q3, q4⟩ | ⟨q1, q2, q3⟩
    · rw [hg] at q4
      cases y with
      | suspended k2 l2 c2 p2 f2 cl2 =>
        have e' := Option.some.inj q4
        injection e' with e1 e2 e3 e4 e5 e6
        subst e1
        exact absurd h1 no_unsup
      | _ => cases q2
    · have hg' : G'[g]? = some _ := q2 ▸ hg
      obtain ⟨G2, r2, x2, n2⟩ := ih1 m _ (q3 _ hg') (r.set (y := .running) q1 trivial)
      obtain ⟨G3, r3, x3, n3⟩ := ih2 m _ rfl (r2.set q1 (NoG_of n2))
      exact ⟨G3, r3, .resumeSuspended hg' x2 hq x3, n3⟩
  | resumeJustStarted hg hv _ ih =>
    intro m G' hf r
    obtain ⟨hm, hg'⟩ := r.plain hg rfl
    obtain ⟨G2, r2, x, n⟩ := ih m G' hf r
    exact ⟨G2, r2, .resumeJustStarted hg' hv x, n⟩
  | resumeThrowFresh hg _ ih =>
    intro m G' hf r
    obtain ⟨hm, hg'⟩ := r.plain hg rfl
    obtain ⟨G2, r2, x, n⟩ := ih m _ rfl (r.set (y := .finished) hm trivial)
    exact ⟨G2, r2, .resumeThrowFresh hg' x, n⟩
  | resumeRunning hg _ ih =>
    intro m G' hf r
    obtain ⟨hm, hg'⟩ := r.plain hg rfl
    obtain ⟨G2, r2, x, n⟩ := ih m G' hf r
    exact ⟨G2, r2, .resumeRunning hg' x, n⟩
  | resumeFinished hg _ ih =>
    intro m G' hf r
    obtain ⟨hm, hg'⟩ := r.plain hg rfl
    obtain ⟨G2, r2, x, n⟩ := ih m G' hf r
    exact ⟨G2, r2, .resumeFinished hg' x, n⟩
  | segRet _ _ ih1 ih2 =>
    intro m G' hf r
    obtain ⟨G2, r2, x2, n2⟩ := ih1 m G' rfl r
    obtain ⟨G3, r3, x3, n3⟩ := ih2 m G2 (split_cons hf) r2
    exact ⟨G3, r3, .segRet x2 x3, n3⟩
  | segGen _ _ _ _ => intro m G' hf r; cases hf
  | segSuspOut hs _ ih =>
    intro m G' hf r
    obtain ⟨G2, r2, x2, n2⟩ := ih m G' rfl r
    exact ⟨G2, r2, .segSuspOut hs x2, split_app n2 hs⟩
  | segSuspGen hs _ _ _ _ _ => intro m G' hf r; rw [hf] at hs; cases hs
theorem wakes_pz {M : Model} {Γ : PySem.Ctx} {p : Pos} {g : Nat} {rr : Resume} {s s' : Shared} {res : GenResult} {m G' : Array GenState} (h : Wakes M Γ p g rr s res s') (r : Rk m s.gens G') :
    ∃ G'', Rk m s'.gens G'' ∧ Wakes M Γ p g rr { s with gens := G' } res { s' with gens := G'' } := by
  unfold Wakes at h
  cases hg : s.gens[g]? with
  | none => rw [hg] at h; exact h.elim
  | some x =>
    rw [hg] at h
    cases x with
    | fresh c =>
      obtain ⟨hm, hg'⟩ := r.plain hg rfl
      cases rr with
      | send v =>
        cases v with
        | none =>
          obtain ⟨e₁, s₁, hr, hq, rfl, rfl⟩ := h
          obtain ⟨G2, r2, x2, n2⟩ := runs_pz hr m _ rfl (show Rk m (s.setGen g .running).gens _ from r.set (y := .running) hm trivial)
          refine ⟨_, r2.set hm (NoG_of n2), ?_⟩
          unfold Wakes
          rw [show ({ s with gens := G' } : Shared).gens[g]? = _ from hg']
          exact ⟨e₁, _, x2, hq, rfl, rfl⟩
        | _ =>
          obtain ⟨rfl, rfl⟩ := h
          refine ⟨G', r, ?_⟩
          unfold Wakes
          rw [show ({ s' with gens := G' } : Shared).gens[g]? = _ from hg']
          exact ⟨rfl, rfl⟩
      | throw v =>
        obtain ⟨rfl, rfl⟩ := h
        refine ⟨_, r.set (y := .finished) hm trivial, ?_⟩
        unfold Wakes
        rw [show ({ s with gens := G' } : Shared).gens[g]? = _ from hg']
        exact ⟨rfl, rfl⟩
    | suspended k₀ l₀ c₀ p₀ fs cl =>
      obtain ⟨e₁, s₁, hr, hq, rfl, rfl⟩ := h
      rcases r.at_ g with ⟨y, q1, q2, q3, q4⟩ | ⟨q1, q2, q3⟩
      · rw [hg] at q4
        cases y with
        | suspended k2 l2 c2 p2 f2 cl2 =>
          have e' := Option.some.inj q4
          injection e' with e1 e2 e3 e4 e5 e6
          subst e1
          exact absurd hr no_unsup
        | _ => cases q2
      · have hg' : G'[g]? = some _ := q2 ▸ hg
        obtain ⟨G2, r2, x2, n2⟩ := runs_pz hr m _ (q3 _ hg') (show Rk m (s.setGen g .running).gens _ from r.set (y := .running) q1 trivial)
        refine ⟨_, r2.set q1 (NoG_of n2), ?_⟩
        unfold Wakes
        rw [show ({ s with gens := G' } : Shared).gens[g]? = _ from hg']
        exact ⟨e₁, _, x2, hq, rfl, rfl⟩
    | running =>
      obtain ⟨hm, hg'⟩ := r.plain hg rfl
      obtain ⟨rfl, rfl⟩ := h
      refine ⟨G', r, ?_⟩
      unfold Wakes
      rw [show ({ s' with gens := G' } : Shared).gens[g]? = _ from hg']
      exact ⟨rfl, rfl⟩
    | finished =>
      obtain ⟨hm, hg'⟩ := r.plain hg rfl
      obtain ⟨rfl, rfl⟩ := h
      refine ⟨G', r, ?_⟩
      unfold Wakes
      rw [show ({ s' with gens := G' } : Shared).gens[g]? = _ from hg']
      exact ⟨rfl, rfl⟩
theorem wp_pz {α : Type} (M : Model) (Γ : PySem.Ctx) (m : Array GenState) (t : Sem α) : ∀ (Q : α → Pos → Shared → Prop) (E : Value → Pos → Shared → Prop) (p : Pos) (s : Shared) (G' : Array GenState), Rk m s.gens G' → wp M Γ t Q E p s →
    wp M Γ t (fun a p' s' => ∃ G, Rk m G s'.gens ∧ Q a p' { s' with gens := G }) (fun e p' s' => ∃ G, Rk m G s'.gens ∧ E e p' { s' with gens := G }) p { s with gens := G' } := by
  induction t with
  | pure a => intro Q E p s G' r h; exact ⟨s.gens, r, h⟩
  | raise e => intro Q E p s G' r h; exact ⟨s.gens, r, h⟩
  | unsupported _ => intro Q E p s G' _ h; exact h
  | finish _ => intro Q E p s G' _ h; exact h
  | rule _ k ih => intro Q E p s G' r h; exact ih () Q E p s G' r h
  | «at» p' k ih => intro Q E p s G' r h; exact ih () Q E p' s G' r h
  | load a _ k ih => intro Q E p s G' r h; obtain ⟨o, ho, h⟩ := h; exact ⟨o, ho, ih o Q E p s G' r h⟩
  | update a _ f k ih => intro Q E p s G' r h; exact ⟨h.1, ih () Q E p { s with heap := s.heap.update a f } G' r h.2⟩
  | loadIfAlive a k ih => intro Q E p s G' r h; exact ih _ Q E p s G' r h
  | point _ k ih => intro Q E p s G' r h; exact ih () Q E p s G' r h
  | register _ _ => intro Q E p s G' _ h; exact h
  | alloc o k ih => intro Q E p s G' r h; exact ih _ Q E p { s with heap := s.heap.push o } G' r h
  | fresh k ih => intro Q E p s G' r h; exact ih _ Q E p { s with toks := s.toks + 1 } G' r h
  | ask k ih => intro Q E p s G' r h; exact ih _ Q E p s G' r h
  | choose src n k ih => intro Q E p s G' r h; exact ⟨h.1, ih _ Q E p { s with drawn := s.drawn.bump src } G' r h.2⟩
  | os q _ k ih => intro Q E p s G' r h; exact ih _ Q E p { s with os := (Os.step s.os q).1 } G' r h
  | call c hd _ _ k ih =>
    intro Q E p s G' r h
    obtain ⟨rr, s', hr, h⟩ := h
    obtain ⟨G2, r2, x, _⟩ := runs_pz hr m G' rfl r
    exact ⟨rr, _, x, ih rr Q E p s' G2 r2 h⟩
  | handled own k ih => intro Q E p s G' r h; exact ih _ Q E p s G' r h
  | genState g k ih =>
    intro Q E p s G' r h
    obtain ⟨st, hs, h⟩ := h
    rcases r.at_ g with ⟨y, h1, h2, h3, h4⟩ | ⟨h1, h2, h3⟩
    · rw [hs] at h4
      cases h4
      rw [poison_seen] at h
      exact ⟨y, h3, ih _ Q E p s G' r h⟩
    · exact ⟨st, h2 ▸ hs, ih _ Q E p s G' r h⟩
  | newGen c k ih =>
    intro Q E p s G' r h
    have q := ih _ Q E p _ _ (r.push c) h
    show wp M Γ (k G'.size) _ _ p _
    rw [← r.sz]
    exact q
  | resume g rr _ k ih =>
    intro Q E p s G' r h
    obtain ⟨res, s', hw, h⟩ := h
    obtain ⟨G2, r2, x⟩ := wakes_pz hw r
    exact ⟨res, _, x, ih res Q E p s' G2 r2 h⟩
  | yield _ _ _ _ => intro Q E p s G' _ h; exact h
  | stack k ih => intro Q E p s G' r h; exact ih _ Q E p s G' r h
  | fork _ _ => intro Q E p s G' _ h; exact h
  | thread k ih => intro Q E p s G' r h; exact ih _ Q E p s G' r h
  | await _ _ _ _ _ => intro Q E p s G' _ h; exact h
theorem Rk.bareP {m G G' : Array GenState} (r : Rk m G G') (h : AllBare G') : AllBare G := fun y hy => by
  obtain ⟨i, hi, e⟩ := Array.mem_iff_getElem.mp hy
  have e1 : G[i]? = some y := by rw [Array.getElem?_eq_getElem hi, e]
  rcases r.at_ i with ⟨x, _, _, q3, q4⟩ | ⟨_, q2, _⟩
  · rw [e1] at q4; cases q4
    rw [poison_bare]; exact h x (Array.mem_of_getElem? q3)
  · exact h y (Array.mem_of_getElem? (q2 ▸ e1))
theorem Rk.bareR {m G G' : Array GenState} (r : Rk m G G') (h : AllBare G) : AllBare G' := fun y hy => by
  obtain ⟨i, hi, e⟩ := Array.mem_iff_getElem.mp hy
  have e1 : G'[i]? = some y := by rw [Array.getElem?_eq_getElem hi, e]
  rcases r.at_ i with ⟨x, _, _, q3, q4⟩ | ⟨_, q2, _⟩
  · rw [e1] at q3; cases q3
    have := h _ (Array.mem_of_getElem? q4)
    rw [poison_bare] at this; exact this
  · exact h y (Array.mem_of_getElem? (q2 ▸ e1 : G[i]? = some y))
/-- what sleeps at the start sleeps at the end -/
def SlpKept (m G' : Array GenState) : Prop := ∀ (i : Nat) x, m[i]? = some x → GenState.slp x = true → G'[i]? = some x
theorem Rk.kept {m G G' : Array GenState} (r : Rk m G G') : SlpKept m G' := fun i x h1 h2 => by
  rcases r.at_ i with ⟨y, q1, _, q3, _⟩ | ⟨q1, _, _⟩
  · rw [h1] at q1; cases q1; exact q3
  · rw [q1 x h1] at h2; cases h2
/-- a run from the poisoned state is a run from the real one -/
theorem wpAny_pz {α : Type} {M : Model} {A : Around} {t : Sem α} {Q : α → Shared → Prop} {E : Value → Shared → Prop} {s : Shared} (h : wpAny M A t Q E { s with gens := s.gens.map poison }) :
    wpAny M A t (fun a s' => ∃ G, AllBare G = AllBare s'.gens ∧ SlpKept s.gens s'.gens ∧ Q a { s' with gens := G }) (fun e s' => ∃ G, AllBare G = AllBare s'.gens ∧ SlpKept s.gens s'.gens ∧ E e { s' with gens := G }) s := by
  have r0 : Rk s.gens (s.gens.map poison) s.gens := ⟨Rl.start s.gens, by simp⟩
  have q : wpAny M A t (fun a s' => ∃ G, Rk s.gens G s'.gens ∧ Q a { s' with gens := G }) (fun e s' => ∃ G, Rk s.gens G s'.gens ∧ E e { s' with gens := G }) s :=
    fun Γ p hΓ => wp_pz M Γ s.gens t _ _ p { s with gens := s.gens.map poison } s.gens r0 (h Γ p hΓ)
  exact wpAny_mono q (fun a s' ⟨G, r, x⟩ => ⟨G, propext ⟨r.bareR, r.bareP⟩, r.kept, x⟩) fun a s' ⟨G, r, x⟩ => ⟨G, propext ⟨r.bareR, r.bareP⟩, r.kept, x⟩
end
end K30X
namespace K30X
open PySem PySem.Spec PyProof.Rows L2
/-! ### the heap grows -/
section
open Sem (wp)
theorem heap_update_size (h : Heap) (a : Addr) (f : Obj → Obj) : (h.update a f).objs.size = h.objs.size := by
  unfold Heap.update
  first
    | (split <;> simp)
    | simp
theorem runs_hsz {M : Model} {Γ : PySem.Ctx} {p : Pos} {t : Sem PySem.Fin} {fs : List Frame} {s s' : Shared} {e : End} (h : Runs M Γ p t fs s e s') : s.heap.objs.size ≤ s'.heap.objs.size := by
  induction h <;> (try simp only [Shared.setGen, heap_update_size, Heap.size_push] at *) <;> omega
theorem wakes_hsz {M : Model} {Γ : PySem.Ctx} {p : Pos} {g : Nat} {r : Resume} {s s' : Shared} {res : GenResult} (h : Wakes M Γ p g r s res s') : s.heap.objs.size ≤ s'.heap.objs.size := by
  unfold Wakes at h
  split at h
  · exact h.elim
  · split at h
    · obtain ⟨e₁, s₁, hr, _, _, rfl⟩ := h
      have q := runs_hsz hr
      exact q
    · rw [h.2]; exact Nat.le_refl _
    · rw [h.2]; exact Nat.le_refl _
  · obtain ⟨e₁, s₁, hr, _, _, rfl⟩ := h
    have q := runs_hsz hr
    exact q
  · rw [h.2]; exact Nat.le_refl _
  · rw [h.2]; exact Nat.le_refl _
theorem wp_hsz {α : Type} (M : Model) (Γ : PySem.Ctx) (n : Nat) (t : Sem α) : ∀ (Q : α → Pos → Shared → Prop) (E : Value → Pos → Shared → Prop) (p : Pos) (s : Shared), n ≤ s.heap.objs.size → wp M Γ t Q E p s →
    wp M Γ t (fun a p' s' => n ≤ s'.heap.objs.size ∧ Q a p' s') (fun e p' s' => n ≤ s'.heap.objs.size ∧ E e p' s') p s := by
  induction t with
  | pure a => intro Q E p s hn h; exact ⟨hn, h⟩
  | raise e => intro Q E p s hn h; exact ⟨hn, h⟩
  | unsupported _ => intro Q E p s _ h; exact h
  | finish _ => intro Q E p s _ h; exact h
  | rule _ k ih => intro Q E p s hn h; exact ih () Q E p s hn h
  | «at» p' k ih => intro Q E p s hn h; exact ih () Q E p' s hn h
  | load a _ k ih => intro Q E p s hn h; obtain ⟨o, ho, h⟩ := h; exact ⟨o, ho, ih o Q E p s hn h⟩
  | update a _ f k ih => intro Q E p s hn h; exact ⟨h.1, ih () Q E p { s with heap := s.heap.update a f } (by show n ≤ (s.heap.update a f).objs.size; rw [heap_update_size]; exact hn) h.2⟩
  | loadIfAlive a k ih => intro Q E p s hn h; exact ih _ Q E p s hn h
  | point _ k ih => intro Q E p s hn h; exact ih () Q E p s hn h
  | register _ _ => intro Q E p s _ h; exact h
  | alloc o k ih => intro Q E p s hn h; exact ih _ Q E p { s with heap := s.heap.push o } (by show n ≤ (s.heap.push o).objs.size; rw [Heap.size_push]; omega) h
  | fresh k ih => intro Q E p s hn h; exact ih _ Q E p { s with toks := s.toks + 1 } hn h
  | ask k ih => intro Q E p s hn h; exact ih _ Q E p s hn h
  | choose src m k ih => intro Q E p s hn h; exact ⟨h.1, ih _ Q E p { s with drawn := s.drawn.bump src } hn h.2⟩
  | os q _ k ih => intro Q E p s hn h; exact ih _ Q E p { s with os := (Os.step s.os q).1 } hn h
  | call c hd _ _ k ih => intro Q E p s hn h; obtain ⟨r, s', hr, h⟩ := h; exact ⟨r, s', hr, ih r Q E p s' (Nat.le_trans hn (runs_hsz hr)) h⟩
  | handled own k ih => intro Q E p s hn h; exact ih _ Q E p s hn h
  | genState g k ih => intro Q E p s hn h; obtain ⟨st, hs, h⟩ := h; exact ⟨st, hs, ih _ Q E p s hn h⟩
  | newGen c k ih => intro Q E p s hn h; exact ih _ Q E p { s with gens := s.gens.push (.fresh c) } hn h
  | resume g r _ k ih => intro Q E p s hn h; obtain ⟨res, s', hw, h⟩ := h; exact ⟨res, s', hw, ih res Q E p s' (Nat.le_trans hn (wakes_hsz hw)) h⟩
  | yield _ _ _ _ => intro Q E p s _ h; exact h
  | stack k ih => intro Q E p s hn h; exact ih _ Q E p s hn h
  | fork _ _ => intro Q E p s _ h; exact h
  | thread k ih => intro Q E p s hn h; exact ih _ Q E p s hn h
  | await _ _ _ _ _ => intro Q E p s _ h; exact h
theorem wpAny_hsz {α : Type} {M : Model} {A : Around} {s : Shared} {t : Sem α} {Q : α → Shared → Prop} {E : Value → Shared → Prop}
    (h : wpAny M A t (fun a s' => s.heap.objs.size ≤ s'.heap.objs.size → Q a s') E s) : wpAny M A t Q E s :=
  wpAny_mono (fun Γ p hΓ => wp_hsz M Γ s.heap.objs.size t _ _ p s (Nat.le_refl _) (h Γ p hΓ) : wpAny M A t (fun a s' => s.heap.objs.size ≤ s'.heap.objs.size ∧ (s.heap.objs.size ≤ s'.heap.objs.size → Q a s')) (fun e s' => s.heap.objs.size ≤ s'.heap.objs.size ∧ E e s') s)
    (fun _ _ x => x.2 x.1) fun _ _ x => x.2
end
/-! ### for, within a generator (no exception) -/
section
variable {prog : Program} {w : World} {A : Around} {R : GenEnd} {Y : Protocol} {n : Nat} {s₀ : Shared} {fs : List Frame} {s : Shared} {env : Env}
abbrev noX : Value → Shared → Prop := fun _ _ => False
theorem seg_forLoop {target : Expr} {it : Value} {body : List Stmt}
    (h : wpAny (model prog w) (A.over (.forLoop target it body [] env) fs) (pyNext it) (fun r s₁ => match r with
      | none => Seg (model prog w) A R Y n s₀ (.block [] env) ((model prog w).den (.block [] env)) fs s₁
      | some v => wpAny (model prog w) (A.over (.forLoop target it body [] env) fs) (letOwnedTupleGo target it v) (fun _ s₂ =>
          wpAny (model prog w) (A.over (.forLoop target it body [] env) fs) (assign target env v) (fun _ s₃ =>
            Seg (model prog w) A R Y n s₀ (.forLoop target it body [] env) ((execs body env).wrap (fun f => match f with
              | .next | .cont => .pure (.again (.forLoop target it body [] env))
              | .brk => .pure (.done .next)
              | .ret v => .pure (.done (.ret v))) (fun e => (do noteFrame e env; theTreesLotGoes e : Sem Unit).wrap (fun _ => .raise e) .raise id id) id id) fs s₃) noX s₂) noX s₁) noX s) :
    Seg (model prog w) A R Y n s₀ (.forLoop target it body [] env) ((model prog w).den (.forLoop target it body [] env)) fs s := by
  show Seg _ A R Y n s₀ _ ((forTurn target it body [] env).onRaise (fun x => do noteFrame x env; theTreesLotGoes x)) fs s
  unfold forTurn
  rw [Sem.onRaise_eq_wrap]
  refine seg_bind_wrap (wpAny_standAt ?_)
  refine seg_bind_wrap (wpAny_onRaise (wpAny_mono h (fun r s₁ h₁ => ?_) fun _ _ z => z.elim))
  cases r with
  | none => exact seg_again rfl h₁
  | some v =>
    refine seg_bind_wrap (wpAny_mono h₁ (fun _ s₂ h₂ => ?_) fun _ _ z => z.elim)
    refine seg_bind_wrap (wpAny_mono h₂ (fun _ s₃ h₃ => ?_) fun _ _ z => z.elim)
    rw [Sem.bind_eq_wrap', Sem.wrap_wrap]
    rw [Sem.wrap_congr (execs body env) _ _ (K' := fun f => match f with
            | .next | .cont => .pure (.again (.forLoop target it body [] env))
            | .brk => .pure (.done .next)
            | .ret v => .pure (.done (.ret v))) (H' := (fun e => (do noteFrame e env; theTreesLotGoes e : Sem Unit).wrap (fun _ => .raise e) .raise id id))
        (fun f => by cases f <;> rfl)
        (fun e => by first | exact Sem.bind_eq_wrap _ _ | (show (do noteFrame e env; theTreesLotGoes e : Sem Unit).bind (fun _ => .raise e) = _; rw [Sem.bind_eq_wrap]))]
    exact h₃
theorem seg_blockNil {target : Expr} (h : Seg (model prog w) A R Y n s₀ (.block [] env) (leafOf (.ok .next)) fs s) : Seg (model prog w) A R Y n s₀ (.block [] env) ((model prog w).den (.block [] env)) fs s := h
theorem seg_For {c : Code} {K : Flow → Sem PySem.Fin} {H : Value → Sem PySem.Fin} {gd : Bool → Bool} {lv : List Value → List Value} {target iter : Expr} {body : List Stmt} {pos : Pos} {M : Model}
    (h : wpAny M (A.over c fs) (eval iter env) (fun x s₁ => wpAny M (A.over c fs) (pyIter x) (fun it s₂ => ∀ p, Seg M A R Y n s₀ (.forLoop target it body [] env) (M.den (.forLoop target it body [] env))
      (.ret (fun r => ((match r with | .ok f => (.pure f : Sem Flow) | .error e => .raise e).onRaise fun (x : Value) => do
        if (← field x 1) == Value.none then unsupported "frame.own-activation:exception-without-traceback"
        setFlight x env.frame).wrap K H gd lv) none (gd false) (lv []) c p [] :: fs) s₂) noX s₁) noX s)
    (hs : ∀ x, foldedSetIterable iter env x = pure x := by intro _; rfl) :
    Seg M A R Y n s₀ c ((exec (.For target iter body [] pos) env).wrap K H gd lv) fs s := by
  rw [exec_For]
  refine seg_bind_wrap (wpAny_standAt ?_)
  refine seg_bind_wrap (wpAny_mono h (fun x s₁ h₁ => ?_) fun _ _ z => z.elim)
  rw [hs]
  refine seg_bind_wrap (wpAny_pure ?_)
  refine seg_bind_wrap (wpAny_standAt ?_)
  refine seg_bind_wrap (wpAny_holding (wpAny_mono h₁ (fun it s₂ h₂ => ?_) fun _ _ z => z.elim))
  exact seg_call h₂
theorem seg_If {c : Code} {K : Flow → Sem PySem.Fin} {H : Value → Sem PySem.Fin} {gd : Bool → Bool} {lv : List Value → List Value} {test : Expr} {body orelse : List Stmt} {pos : Pos} {M : Model}
    (h : wpAny M (A.over c fs) (isTrue test env (eval test env)) (fun b s' => if b = true then Seg M A R Y n s₀ c ((execs body env).wrap K H gd lv) fs s' else Seg M A R Y n s₀ c ((execs orelse env).wrap K H gd lv) fs s') noX s) :
    Seg M A R Y n s₀ c ((exec (.If test body orelse pos) env).wrap K H gd lv) fs s := by
  rw [exec_If]
  refine seg_bind_wrap (wpAny_standAt ?_)
  refine seg_bind_wrap (wpAny_mono h (fun b s₁ h₁ => ?_) fun _ _ z => z.elim)
  cases b with
  | true => rw [if_pos rfl] at h₁; exact h₁
  | false => rw [if_neg Bool.false_ne_true] at h₁; exact h₁
end
end K30X
namespace K30X
open PySem PySem.Spec PyProof.Rows L2
/-! ### a generator over a list: for address, block in enumerate(l): if block is not None: yield (address, block) -/
section
variable {prog : Program} {w : World}
structure WEnv (env : Env) : Prop where
  kind : env.scope.kind = .function
  co : env.scope.isCoroutine = false
  ia : interactive env = false
  ka : env.kindOf "address" = some .local
  kb : env.kindOf "block" = some .local
  kp : (env.scope.kind == .class || (env.scope.kind == .module && env.locals != env.globals)) = false
/-- where the walk stands: at item i; e: the enumerate object, it: the list's iterator, l: the list -/
structure Zs (L e it l : Addr) (i : Nat) (h : Heap) : Prop where
  en : ∃ old, IsEnum h e it ((i : Nat) : Int) old
  li : h.IsListIter it l i
  ns : ∃ m, h.Ns L m
  d1 : e ≠ it
  d2 : e ≠ L
  d3 : it ≠ L
  d4 : l ≠ L
  d5 : l ≠ e
  d6 : l ≠ it
theorem Zs.keeps {L e it l : Addr} {i : Nat} {h h' : Heap} (z : Zs L e it l i h) (k : ∀ b, (b = L ∨ b = e ∨ b = it) → ∀ o, h.get? b = some o → h'.get? b = some o) : Zs L e it l i h' :=
  ⟨let ⟨old, q⟩ := z.en; ⟨old, k e (.inr (.inl rfl)) _ q⟩, z.li.at fun o q => k it (.inr (.inr rfl)) o q, let ⟨m, o, es, ep, ho, r⟩ := z.ns; ⟨m, o, es, ep, k L (.inl rfl) _ ho, r⟩, z.d1, z.d2, z.d3, z.d4, z.d5, z.d6⟩
/-- since s₀ only these three have changed -/
structure Kp (L e it : Addr) (s₀ s : Shared) : Prop where
  keep : ∀ b o, b ≠ L → b ≠ e → b ≠ it → s₀.heap.get? b = some o → s.heap.get? b = some o
  sz : s₀.heap.objs.size ≤ s.heap.objs.size
  os : s.os = s₀.os
  gens : s.gens = s₀.gens
theorem Kp.refl (L e it : Addr) (s : Shared) : Kp L e it s s := ⟨fun _ _ _ _ _ h => h, Nat.le_refl _, rfl, rfl⟩
theorem Kp.trans {L e it : Addr} {a b c : Shared} (x : Kp L e it a b) (y : Kp L e it b c) : Kp L e it a c := ⟨fun q o h1 h2 h3 h => y.keep q o h1 h2 h3 (x.keep q o h1 h2 h3 h), Nat.le_trans x.sz y.sz, y.os.trans x.os, y.gens.trans x.gens⟩
/-- one item -/
theorem wb_item {B : Around} {env : Env} {e it l : Addr} {i : Nat} {items : Array Value} {v : Value} {s : Shared} {k1 : Nat} {p1 p2 p3 : Pos} (hh : B.handled = none) (g : WEnv env) (z : Zs env.locals e it l i s.heap) (hl : s.heap.IsList l items) (hv : items[i]? = some v)
    {Q : Shared → Prop} (hQ : ∀ s3, Kp env.locals e it s s3 → Zs env.locals e it l (i + 1) s3.heap → s3.heap.IsList l items → (∃ m tk, s3.heap.Ns env.locals m ∧ m "address" = some (.int i tk) ∧ m "block" = some v) → Q s3) :
    wpAny (model prog w) B (pyNext (.ref e)) (fun r s₁ => match r with
      | none => False
      | some v => wpAny (model prog w) B (letOwnedTupleGo (.Tuple [.Name "address" p1, .Name "block" p2] k1 p3) (.ref e) v) (fun _ s₂ =>
          wpAny (model prog w) B (assign (.Tuple [.Name "address" p1, .Name "block" p2] k1 p3) env v) (fun _ s₃ => Q s₃) noX s₂) noX s₁) noX s := by
  obtain ⟨⟨old, he'⟩, hit', ⟨m', hn'⟩, hei, heL, hiL, hlL, hle, hli⟩ := z
  have heH : e < s.heap.objs.size := Heap.lt_size he'
  have hLH : env.locals < s.heap.objs.size := hn'.lt
  obtain ⟨oi, hoi, _⟩ := id hit'
  obtain ⟨ol, hol, _⟩ := id hl
  have hiH : it < s.heap.objs.size := Heap.lt_size hoi
  have hlH : l < s.heap.objs.size := Heap.lt_size hol
  refine wpAny_pyNext_enum_item he' hit' hl hv hei fun h₁ heo hit₁ ht₁ hz₁ hk₁ => ?_
  refine wpAny_letOwnedTupleGo_enum heo fun h₂ he₂ hs₂ => ?_
  replace hs₂ : Heap.SameBut e h₁ h₂ := hs₂
  have ht₂ : h₂.IsTuple s.heap.objs.size #[.int i s.toks, v] := ⟨_, (hs₂.2 _ (Nat.ne_of_gt heH)).trans ht₁, rfl, _, rfl⟩
  have hz₂ : h₂.objs.size = s.heap.objs.size + 1 := hs₂.1.trans hz₁
  refine wpAny_hsz (wpAny_assign_Tuple hh ht₂ rfl rfl fun h₃ hx₃ => ?_)
  replace hx₃ : Heap.ExtBut h₂.objs.size h₂ h₃ := hx₃
  have old₃ : ∀ b o, b < s.heap.objs.size → h₂.get? b = some o → h₃.get? b = some o := fun b o hb x => hx₃ b o (by rw [hz₂]; exact Nat.ne_of_lt (Nat.lt_succ_of_lt hb)) x
  have hn₃ : h₃.Ns env.locals m' := (hn'.at fun o x => hk₁ _ o (Ne.symm heL) (Ne.symm hiL) x).sameBut hs₂ (Ne.symm heL) |>.at fun o x => old₃ _ o hLH x
  show wpAny _ B (do holding [v] (assign (.Name "address" p1) env (.int i s.toks)); do holding [] (assign (.Name "block" p2) env v); pure ()) _ _ _
  refine wpAny_bind (wpAny_holding (wpAny_assign_Name (wpAny_storeName_local g.ka hn₃ (fun h₄ hn₄ hs₄ => ?_) g.kp)))
  replace hs₄ : Heap.SameBut env.locals h₃ h₄ := hs₄
  refine wpAny_bind (wpAny_holding (wpAny_assign_Name (wpAny_storeName_local g.kb hn₄ (fun h₅ hn₅ hs₅ => wpAny_pure ?_) g.kp)))
  replace hs₅ : Heap.SameBut env.locals h₄ h₅ := hs₅
  intro hsz
  have up : ∀ b o, b ≠ env.locals → b < s.heap.objs.size → h₂.get? b = some o → h₅.get? b = some o := fun b o hbL hb x =>
      hs₅.extBut b o hbL (hs₄.extBut b o hbL (old₃ b o hb x))
  refine hQ _ ⟨fun b o h1 h2 h3 x => up b o h1 (Heap.lt_size x) (hs₂.extBut b o h2 (hk₁ b o h2 h3 x)), ?_, rfl, rfl⟩ ⟨⟨v, ?_⟩, ?_, ⟨_, hn₅⟩, hei, heL, hiL, hlL, hle, hli⟩ ?_ ⟨_, s.toks, hn₅, ?_, ?_⟩
  · have hsz' : h₂.objs.size ≤ h₅.objs.size := hsz
    show s.heap.objs.size ≤ h₅.objs.size
    omega
  · have : ((i + 1 : Nat) : Int) = (i : Int) + 1 := by push_cast; rfl
    rw [this]; exact up e _ heL heH he₂
  · exact (hit₁.extBut hs₂.extBut (Ne.symm hei)).at fun o x => up it o hiL hiH x
  · exact ((hl.at fun o x => hk₁ l o hle hli x).extBut hs₂.extBut hle).at fun o x => up l o hlL hlH x
  · show (if ("address" : Str) = "block" then some v else if ("address" : Str) = "address" then some _ else m' "address") = _
    rw [if_neg (by decide), if_pos rfl]
  · show (if ("block" : Str) = "block" then some v else _) = _
    rw [if_pos rfl]
theorem wb_end {B : Around} {L e it l : Addr} {i : Nat} {items : Array Value} {s : Shared} (hh : B.handled = none) (z : Zs L e it l i s.heap) (hl : s.heap.IsList l items) (hv : items[i]? = none)
    {Q : Shared → Prop} (hQ : ∀ s3, Kp L e it s s3 → Q s3) : wpAny (model prog w) B (pyNext (.ref e)) (fun r s₁ => r = none ∧ Q s₁) noX s := by
  obtain ⟨⟨old, he'⟩, hit', ⟨m', hn'⟩, hei, heL, hiL, hlL, hle, hli⟩ := z
  refine wpAny_hsz (wpAny_pyNext_enum_end hh he' hit' hl hv fun h₁ he₁ => fun hsz => ⟨rfl, hQ _ ⟨fun b o h1 h2 h3 x => he₁ b o h3 x, hsz, rfl, rfl⟩⟩)
theorem wb_test {B : Around} {env : Env} {v : Value} {s : Shared} {p1 p2 p3 : Pos} {k : Nat} {m : Str → Option Value} (g : WEnv env) (hn : s.heap.Ns env.locals m) (hv : m "block" = some v) (hp : plainIs v .none = true) {Q : Bool → Shared → Prop} (hQ : Q (!(v == .none)) s) :
    wpAny (model prog w) B (isTrue (.Compare (.Name "block" p1) [.IsNot] [.Constant .none k p2] p3) env (eval (.Compare (.Name "block" p1) [.IsNot] [.Constant .none k p2] p3) env)) Q noX s := by
  refine wpAny_isTrue_Compare1 (wpAny_Name (wpAny_loadName_local g.kind g.kb hn hv ?_))
  refine wpAny_pure ?_
  exact wpAny_isNot_plain hp (wpAny_pure hQ)
theorem wb_pair {B : Around} {env : Env} {i : Nat} {tk : Tok} {v : Value} {s : Shared} {p1 p2 p3 : Pos} {k : Nat} {m : Str → Option Value} (g : WEnv env) (hn : s.heap.Ns env.locals m) (ha : m "address" = some (.int i tk)) (hv : m "block" = some v) {Q : Value → Shared → Prop}
    (hQ : Q (.ref s.heap.objs.size) { s with heap := s.heap.push { cls := .type "tuple", data := .seq #[.int i tk, v] } }) :
    wpAny (model prog w) B (eval (.Tuple [.Name "address" p1, .Name "block" p2] k p3) env) Q noX s := by
  refine wpAny_Tuple ?_
  refine Calls.spliced_cons (wpAny_Name (wpAny_loadName_local g.kind g.ka hn ha ?_))
  refine Calls.spliced_cons (wpAny_Name (wpAny_loadName_local g.kind g.kb hn hv ?_))
  refine Calls.spliced_nil ?_
  exact ⟨by show 2 ≤ sizeLine; decide, hQ⟩
end
end K30X
namespace K30X
open PySem PySem.Spec PyProof.Rows L2
/-! ### the same as a run that sleeps -/
section
variable {prog : Program} {w : World}
/-- where a wake finds the walk: at the start (it: not yet laid), or at item i -/
def AtP (it l : Addr) (h : Heap) (i : Nat) : Prop := (i = 0 ∧ h.objs.size ≤ it) ∨ h.IsListIter it l i
theorem AtP.uniq {it l : Addr} {h : Heap} {i j : Nat} (a : AtP it l h i) (b : AtP it l h j) : i = j := by
  rcases a with ⟨rfl, a⟩ | ⟨o, ho, hc, hd⟩
  · rcases b with ⟨rfl, b⟩ | ⟨o, ho, hc, hd⟩
    · rfl
    · exact absurd (Nat.lt_of_lt_of_le (Heap.lt_size ho) a) (Nat.lt_irrefl _)
  · rcases b with ⟨rfl, b⟩ | ⟨o', ho', hc', hd'⟩
    · exact absurd (Nat.lt_of_lt_of_le (Heap.lt_size ho) b) (Nat.lt_irrefl _)
    · rw [ho] at ho'; cases ho'
      rw [hd] at hd'
      simp at hd'
      omega
/-- an item is handed out: the j-th, the first since i0 that is not None -/
def YW (L e it l : Addr) (N : Nat) : Protocol := fun n s₀ v s₁ kap => ∀ i0, AtP it l s₀.heap i0 → ∃ (j : Nat) (u : Value) (tk : Tok) (T : Addr) (items : Array Value),
  i0 ≤ j ∧ s₀.heap.IsList l items ∧ items[j]? = some u ∧ u ≠ .none ∧ (∀ k, i0 ≤ k → k < j → items[k]? = some .none) ∧ v = .ref T ∧ s₀.heap.objs.size ≤ T ∧ T ≠ L ∧ T ≠ e ∧ T ≠ it ∧ s₁.heap.get? T = some { cls := .type "tuple", data := .seq #[.int j tk, u] } ∧
  Kp L e it s₀ s₁ ∧ Zs L e it l (j + 1) s₁.heap ∧ ∀ s'' : Shared, Zs L e it l (j + 1) s''.heap → (∃ its, s''.heap.IsList l its ∧ its.size = N ∧ ∀ x ∈ its, plainIs x .none = true) → kap (.send .none) s''
/-- the walk is over -/
def EW (L e it l : Addr) (s₀ s₁ : Shared) : Prop := ∀ i0, AtP it l s₀.heap i0 → ∃ items, s₀.heap.IsList l items ∧ (∀ k u, i0 ≤ k → items[k]? = some u → u = .none) ∧ Kp L e it s₀ s₁
def RW (L e it l : Addr) : GenEnd := fun n s₀ r s₁ => ((r = .ok (.ret .none) ∨ r = .ok .next) ∧ EW L e it l s₀ s₁) ∨ ∃ x, r = .error x ∧ (fun _ _ => False : Value → Shared → Prop) x s₁
variable {A : Around} {env : Env} {e it l : Addr} {N : Nat} {fs : List Frame} {k1 k2 k3 : Nat} {p1 p2 p3 q1 q2 q3 q4 y1 y2 y3 y4 y5 : Pos} {c : Code}
theorem seg_forLoopP {R : GenEnd} {Y : Protocol} {n : Nat} {s₀ s : Shared} {target : Expr} {itv : Value} {body : List Stmt} {P : Shared → Prop}
    (h : wpAny (model prog w) (A.over (.forLoop target itv body [] env) fs) (pyNext itv) (fun r s₁ => match r with
      | none => False
      | some v => wpAny (model prog w) (A.over (.forLoop target itv body [] env) fs) (letOwnedTupleGo target itv v) (fun _ s₂ =>
          wpAny (model prog w) (A.over (.forLoop target itv body [] env) fs) (assign target env v) (fun _ s₃ => P s₃) noX s₂) noX s₁) noX s)
    (hP : ∀ s₃, P s₃ → Seg (model prog w) A R Y n s₀ (.forLoop target itv body [] env) ((execs body env).wrap (fun f => match f with
              | .next | .cont => .pure (.again (.forLoop target itv body [] env))
              | .brk => .pure (.done .next)
              | .ret v => .pure (.done (.ret v))) (fun e => (do noteFrame e env; theTreesLotGoes e : Sem Unit).wrap (fun _ => .raise e) .raise id id) id id) fs s₃) :
    Seg (model prog w) A R Y n s₀ (.forLoop target itv body [] env) ((model prog w).den (.forLoop target itv body [] env)) fs s := by
  refine seg_forLoop (wpAny_mono h (fun r s₁ h₁ => ?_) fun _ _ z => z)
  cases r with
  | none => exact h₁.elim
  | some v => exact wpAny_mono h₁ (fun _ s₂ h₂ => wpAny_mono h₂ (fun _ s₃ h₃ => hP s₃ h₃) fun _ _ z => z) fun _ _ z => z
theorem seg_wb {tg : Expr} {body : List Stmt} (g : WEnv env) (htg : tg = .Tuple [.Name "address" p1, .Name "block" p2] k1 p3)
    (hb : body = [.If (.Compare (.Name "block" q1) [.IsNot] [.Constant .none k2 q2] q3) [.Expr (.Yield (some (.Tuple [.Name "address" y1, .Name "block" y2] k3 y3)) y4) y5] [] q4])
    (hh : (A.over (.forLoop tg (.ref e) body [] env) fs).handled = none) (hsp : splitAtGen fs = none) (hgd : fs.any Frame.guarded = false)
    (hend : ∀ (n : Nat) (s₀ s : Shared), EW env.locals e it l s₀ s → Seg (model prog w) A (RW env.locals e it l) (YW env.locals e it l N) n s₀ (.block [] env) (leafOf (.ok .next)) fs s) :
    ∀ (r i i0 : Nat) (s₀ s : Shared) (items : Array Value), i + r = N → i0 ≤ i → AtP it l s₀.heap i0 → s₀.heap.IsList l items → items.size = N → (∀ x ∈ items, plainIs x .none = true) → (∀ k, i0 ≤ k → k < i → items[k]? = some .none) →
      Kp env.locals e it s₀ s → Zs env.locals e it l i s.heap →
      ∀ n, r ≤ n → Seg (model prog w) A (RW env.locals e it l) (YW env.locals e it l N) n s₀ (.forLoop tg (.ref e) body [] env) ((model prog w).den (.forLoop tg (.ref e) body [] env)) fs s := by
  subst htg hb
  intro r
  induction r with
  | zero =>
    intro i i0 s₀ s items hi hi0 ha hl hN hpl hk kp z n hn
    have hv : items[i]? = none := by rw [Array.getElem?_eq_none_iff]; omega
    have hl' : s.heap.IsList l items := hl.at fun o q => kp.keep l o z.d4 z.d5 z.d6 q
    refine seg_forLoop (wpAny_mono (wb_end (Q := fun s3 => Kp env.locals e it s₀ s3) hh z hl' hv (fun s3 k3 => kp.trans k3)) (fun r s₁ h₁ => ?_) fun _ _ q => q)
    obtain ⟨rfl, h₁⟩ := h₁
    refine seg_blockNil (target := .Constant .none 0 p1) (hend n s₀ s₁ fun j0 hj0 => ?_)
    have := ha.uniq hj0
    subst this
    refine ⟨items, hl, fun k u h1 h2 => ?_, h₁⟩
    have hlt : k < i := by
      have := (Array.getElem?_eq_some_iff.mp h2).1
      omega
    rw [hk k h1 hlt] at h2
    cases h2; rfl
  | succ r ih =>
    intro i i0 s₀ s items hi hi0 ha hl hN hpl hk kp z n hn
    obtain ⟨v, hv⟩ : ∃ v, items[i]? = some v := ⟨_, Array.getElem?_eq_getElem (by omega)⟩
    have hl' : s.heap.IsList l items := hl.at fun o q => kp.keep l o z.d4 z.d5 z.d6 q
    refine seg_forLoopP (P := fun s3 => Kp env.locals e it s s3 ∧ Zs env.locals e it l (i + 1) s3.heap ∧ s3.heap.IsList l items ∧ ∃ m tk, s3.heap.Ns env.locals m ∧ m "address" = some (.int i tk) ∧ m "block" = some v) (wb_item (v := v) hh g z hl' hv (fun s3 k3 z3 l3 m3 => ⟨k3, z3, l3, m3⟩)) ?_
    rintro s3 ⟨k3, z3, l3, m3⟩
    obtain ⟨m, tk, hn3, hma, hmb⟩ := m3
    have kp3 := kp.trans k3
    refine seg_execs_cons (seg_If (wb_test g hn3 hmb (hpl v (Array.mem_of_getElem? hv)) ?_))
    by_cases hvn : v = .none
    · have : (!(v == Value.none)) = false := by subst hvn; rfl
      rw [this, if_neg Bool.false_ne_true]
      refine seg_execs_nil (seg_execs_nil (seg_again rfl ?_))
      cases n with
      | zero => omega
      | succ n =>
      exact (ih (i + 1) i0 s₀ s3 items (by omega) (by omega) ha hl hN hpl (fun k h1 h2 => by
        by_cases hki : k = i
        · subst hki; rw [hv, hvn]
        · exact hk k h1 (by omega)) kp3 z3 _ (by omega))
    · have : (!(v == Value.none)) = true := by
        cases v <;> first | rfl | exact absurd rfl hvn
      rw [this, if_pos rfl]
      refine seg_execs_cons ?_
      obtain ⟨n, rfl⟩ : ∃ n', n = n' + 1 := ⟨n - 1, by omega⟩
      refine seg_Expr_Yield hsp rfl hgd (wpAny_mono (wb_pair g hn3 hma hmb (Q := fun v' s' => v' = .ref s3.heap.objs.size ∧ s' = { s3 with heap := s3.heap.push { cls := .type "tuple", data := .seq #[.int i tk, v] } }) ⟨rfl, rfl⟩) (fun v' s' h' => ?_) fun _ _ q => q.elim) g.co g.ia
      obtain ⟨rfl, rfl⟩ := h'
      intro kap hkap i0' hi0'
      have := ha.uniq hi0'
      subst this
      have kpn : ∀ b o, s3.heap.get? b = some o → (s3.heap.push { cls := .type "tuple", data := .seq #[.int i tk, v] }).get? b = some o := fun b o q => Heap.get?_push_of_some _ q
      obtain ⟨old3, he3⟩ := z3.en
      obtain ⟨oi3, hoi3, _⟩ := id z3.li
      refine ⟨i, v, tk, s3.heap.objs.size, items, hi0, hl, hv, hvn, hk, rfl, kp3.sz, Nat.ne_of_gt hn3.lt, Nat.ne_of_gt (Heap.lt_size he3), Nat.ne_of_gt (Heap.lt_size hoi3), Heap.get?_push_size _ rfl,
        ⟨fun b o h1 h2 h3 q => kpn b o (kp3.keep b o h1 h2 h3 q), by show _ ≤ (s3.heap.push _).objs.size; rw [Heap.size_push]; exact Nat.le_succ_of_le kp3.sz, kp3.os, kp3.gens⟩, z3.keeps fun b _ o q => kpn b o q, fun s'' z'' ⟨its, hl'', hN'', hpl''⟩ => ?_⟩
      refine hkap .none s'' ?_
      refine seg_execs_nil (seg_again rfl ?_)
      exact ih (i + 1) (i + 1) s'' s'' its (by omega) (Nat.le_refl _) (.inr z''.li) hl'' hN'' hpl'' (fun k h1 h2 => by omega) (Kp.refl _ _ _ _) z'' _ (by omega)
end
end K30X
namespace K30X
open PySem PySem.Spec PyProof.Rows L2
/-! ### the generator from its start -/
section
variable {P : Program} {w : World} {K : PySem.W.Frag} {mg : Str → Option Value} {base : Heap}
abbrev wbIf (k2 k3 : Nat) (q1 q2 q3 q4 y1 y2 y3 y4 y5 : Pos) : List Stmt :=
  [.If (.Compare (.Name "block" q1) [.IsNot] [.Constant .none k2 q2] q3) [.Expr (.Yield (some (.Tuple [.Name "address" y1, .Name "block" y2] k3 y3)) y4) y5] [] q4]
abbrev wbBody (k1 k2 k3 : Nat) (p1 p2 p3 q1 q2 q3 q4 y1 y2 y3 y4 y5 z1 z2 z3 z4 z5 : Pos) : List Stmt :=
  [.For (.Tuple [.Name "address" p1, .Name "block" p2] k1 p3) (.Call (.Name "enumerate" z1) [.Attribute (.Name "self" z2) "seen" z3] [] z4) (wbIf k2 k3 q1 q2 q3 q4 y1 y2 y3 y4 y5) [] z5]
/-- the generator's frame, as the def's scope has it -/
structure WEnvF (env : Env) : Prop extends WEnv env where
  gl : env.globals = mainGlobals
  bl : env.builtins = builtinsNs
  ks : env.kindOf "self" = some .local
  ke : env.kindOf "enumerate" = some .globalImplicit
theorem seg_wbFunc {A : Around} {env : Env} {e it l dv dx C : Addr} {fs : List (Str × V)} {H : Hp} {items : Array Value} {N : Nat} {m0 : Str → Option Value} {s : Shared} {k1 k2 k3 : Nat} {p1 p2 p3 q1 q2 q3 q4 y1 y2 y3 y4 y5 z1 z2 z3 z4 z5 : Pos}
    (hA : A.handled = none) (g : WEnvF env) (mod : Mod K mg base) (hm : mg "enumerate" = none) (hb : ∀ b o, base.get? b = some o → s.heap.get? b = some o) (hn : s.heap.Ns env.locals m0) (hs : m0 "self" = some (.ref dv)) (hok : HOk P w H s.heap)
    (hd : H dv = some (.ins C dx fs)) (c : Cls K C) (na : NoAttr K C "seen") (hl : fs.lookup ("seen" : Str) = some (.ref l)) (hlist : s.heap.IsList l items) (hlL : l ≠ env.locals) (hN : items.size = N) (hpl : ∀ x ∈ items, plainIs x .none = true) (hit : s.heap.objs.size = it) (he : e = it + 1) (n : Nat) (hNn : N ≤ n)
    (hbase : attributeBase (.Name "self" z2) "seen" env (eval (.Name "self" z2) env) = eval (.Name "self" z2) env := by rfl) :
    Seg (model P w) A (RW env.locals e it l) (YW env.locals e it l N) n s (.func (wbBody k1 k2 k3 p1 p2 p3 q1 q2 q3 q4 y1 y2 y3 y4 y5 z1 z2 z3 z4 z5) env) ((model P w).den (.func (wbBody k1 k2 k3 p1 p2 p3 q1 q2 q3 q4 y1 y2 y3 y4 y5 z1 z2 z3 z4 z5) env)) [] s := by
  subst he hit
  refine seg_func (seg_execs_cons (seg_For ?_))
  obtain ⟨mb, hb1, hb2⟩ := mod.blt
  refine Call_ (Calls.Name_function_global g.kind g.ke (Calls.loadGlobal_builtin (by rw [g.gl]; exact mod.glob.keeps hb) hm (by rw [g.bl]; exact hb1.keeps hb) ((hb2 _ (by decide)).trans boot_enumerate) (PyProof.Rows.callWith_type1 ?_ rfl rfl)))
  refine Calls.spliced_cons (attr_of hbase (wpAny_Name (wpAny_loadName_local g.kind g.ks hn hs ?_)))
  obtain ⟨mA, O, r, _, _, _⟩ := ins_get hok hd
  obtain ⟨u, hu, ru⟩ := RelO.some_of (v := .ref l) (o := mA ("seen" : Str)) (by rw [← hl]; exact r ("seen" : Str))
  obtain rfl : u = Value.ref l := ru
  refine get_map (mod.kin.keeps hb) O (c.get _) c.hd na hu (handed_of (v := .ref l) rfl) ?_
  refine Calls.spliced_nil ?_
  refine call_enumerate_list (s := { s with toks := s.toks + 1 }) hlist fun h' hen hli hsz hk => ?_
  refine wpAny_pyIter_enum hen fun p => ?_
  have hlt : l < s.heap.objs.size := by obtain ⟨o, ho, _⟩ := hlist; exact Heap.lt_size ho
  have hLt : env.locals < s.heap.objs.size := hn.lt
  have ov : ∀ (body : List Stmt) (kk : Result → Sem PySem.Fin) (b : Bool) (lvs kp : List Value) (B : List Stmt), (A.over (.forLoop (.Tuple [.Name "address" p1, .Name "block" p2] k1 p3) (.ref (s.heap.objs.size + 1)) body [] env) [.ret kk none b lvs (.func B env) p kp]).handled = none := fun body kk b lvs kp B => by
    rw [GenW.over_loop rfl rfl, GenW.over_func]; exact hA
  refine seg_wb (env := env) (items := items) g.toWEnv rfl rfl (ov _ _ _ _ _ _) rfl rfl (fun n' s₀ s' hE => ?_) N 0 0 s { s with heap := h', toks := s.toks + 1 } (by omega) (Nat.le_refl _) (.inl ⟨rfl, Nat.le_refl _⟩) hlist hN hpl (fun k h1 h2 => by omega)
    ⟨fun b o _ _ _ q => hk b o q, by show s.heap.objs.size ≤ h'.objs.size; rw [hsz]; exact Nat.le_add_right _ _, rfl, rfl⟩ ⟨⟨_, hen⟩, hli, ⟨m0, hn.at fun o q => hk _ o q⟩, Nat.succ_ne_self _, Nat.ne_of_gt (Nat.lt_succ_of_lt hLt), Nat.ne_of_gt hLt, hlL, Nat.ne_of_lt (Nat.lt_succ_of_lt hlt), Nat.ne_of_lt hlt⟩ n hNn
  refine seg_leaf (.ok .next) ?_
  exact seg_end (.ok (.ret .none)) (.inl ⟨.inl rfl, hE⟩)
end
end K30X
namespace K30X
open PySem PySem.Spec PyProof.Rows L2
/-! ### the call that makes the generator -/
section
theorem call_wb {X : Cx} {pins : List (Addr × Obj)} {σ : L2.St} {H : Hp} {s : Shared} {E1 : Value → Shared → Prop} {x qual : Str} {params : Arguments} {body : List Stmt} {scope : Scope} {f dv : Addr} {fd : FuncData} {N : List Str} {k : Nat}
    (I : Inv X pins σ H s) (hr : Room k X.A) (F : FunD X.K x qual params body scope [] [] f fd) (S : GScope N ["self"] scope) (hs : scope.names.lookup ("self" : Str) = some .local) (hb : Binds X.K fd ["self"] []) :
    wpAny (model X.prog X.w) X.A (call (.ref f) [.ref dv]) (fun u s' => ∃ (g : Nat) (env : Env) (a : Addr) (cdv : Value), u = .ref a ∧ env = envOfC qual scope s.heap.objs.size f cdv ∧ Inv X pins σ H s' ∧ s'.heap.IsGen a g ∧ s'.gens[g]? = some (.fresh (.func body env)) ∧
      (∃ m, s'.heap.Ns env.locals m ∧ m ("self" : Str) = some (.ref dv)) ∧ s.heap.objs.size ≤ a ∧ a ≠ env.locals ∧ env.locals < s'.heap.objs.size ∧ (∃ oa, s'.heap.get? a = some oa ∧ ∀ v, oa.data ≠ .cell v) ∧ (∀ b o, s.heap.get? b = some o → s'.heap.get? b = some o)) E1 s := by
  obtain ⟨oc, od, dV, kV, doc, pm, an, cdv, ct, osl, rfl, lk, hcd, _, _⟩ := F.ex
  have KX : X.K.In s.heap := I.kIn
  have lim : s.heap.NoLimit := I.nolimit
  have hbs := hb s [.ref dv] KX rfl
  have hkind : ∀ y ∈ [("self" : Str)].zip ([.ref dv] ++ ([] : List Value)), scope.names.lookup y.1 = some .local ∨ (scope.names.lookup y.1 = some .cell ∧ ((cellsFrom (s.heap.objs.size + 1) scope.names []).lookup y.1).isSome = true) := fun y hy => by
    have : y = (("self" : Str), Value.ref dv) := by simpa using hy
    subst this
    exact .inl hs
  refine wpAny_call (codeAny_call_generator hr.depth (KX _ _ lk) rfl S.co S.gen rfl (PySem.W.codeRec_of KX hcd) (hbs _ _ _ _ ?_))
  refine wpAny_newFunctionEnv_cells S.kind hkind fun env he s1 xc => ?_
  subst he
  have lim1 : s1.heap.NoLimit := lim.keeps xc.toInCall.keep
  refine ⟨lim1, ?_⟩
  obtain ⟨h1, tk, es1, hk1⟩ := xc.done
  have os1 : s1.os = s.os := by rw [es1]
  have gen1 : s1.gens = s.gens := by rw [es1]
  have kp1 : ∀ b o, s.heap.get? b = some o → s1.heap.get? b = some o := xc.toInCall.keep
  have sz1 : s.heap.objs.size < s1.heap.objs.size := xc.toInCall.ns.lt
  have kp2 : ∀ (go : Obj) b o, s.heap.get? b = some o → (s1.heap.push go).get? b = some o := fun go b o e => Heap.get?_push_of_some _ (kp1 b o e)
  have go1 : ∀ (go : Obj), go.isFreed = false → (s1.heap.push go).get? s1.heap.objs.size = some go := fun go hf => Heap.get?_push_size _ hf
  refine ⟨s1.gens.size, _, s1.heap.objs.size, cdv, rfl, rfl, ?_, ⟨_, _, _, go1 _ rfl, rfl, rfl, rfl⟩, Array.getElem?_push_size .., ?_, Nat.le_of_lt sz1, Nat.ne_of_gt sz1, ?_, ⟨_, go1 _ rfl, fun v q => by cases q⟩, fun b o e => kp2 _ b o e⟩
  · refine I.call' (ch := []) os1 (Un.kept fun b o e => kp2 _ b o e) (I.hok.kept fun b o e => kp2 _ b o e) ?_ fun b z => by simp at z
    exact AllBare.push (by rw [gen1]; exact I.bare) rfl
  · obtain ⟨o, es, ep, ho, r1, r2, r3⟩ := xc.toInCall.ns
    refine ⟨_, ⟨o, es, ep, Heap.get?_push_of_some _ ho, r1, r2, r3⟩, ?_⟩
    exact bindL_get (P := ["self"]) (vs := [.ref dv]) (i := 0) (by simp) rfl rfl hs
  · show s.heap.objs.size < (s1.heap.push _).objs.size
    rw [Heap.size_push]; omega
end
end K30X
namespace K30X
open PySem PySem.Spec PyProof.Rows L2
/-! ### one turn of a sleeping generator: what it leaves sleeps -/
section
/-- what a sleeper wants of the next wake, n turns being left -/
def kapOf (M : Model) (A : Around) (R : GenEnd) (Y : Protocol) (gs : GenState) : Nat → Resume → Shared → Prop
  | 0, _, _ => False
  | m + 1, r, s => gs.Goes M A R Y m r s
theorem wpAny_resumeS {M : Model} {A : Around} {R : GenEnd} {Y : Protocol} {n : Nat} {E : Value → Shared → Prop} {s : Shared} {g : Nat} {gs : GenState} {r : Resume} {l : List Value} {α : Type} {k : GenResult → Sem α} {Q : α → Shared → Prop}
    (hg : s.gens[g]? = some gs) (hgo : gs.Goes M A R Y n r (s.setGen g .running)) (hR : ∀ x s₁, R n (s.setGen g .running) x s₁ → wpAny M A (k (End.ret x).result) Q E (s₁.setGen g .finished))
    (hY : ∀ v s₁ gs', gs'.bare = true → GenState.slp gs' = true → Y (n - 1) (s.setGen g .running) v s₁ (kapOf M A R Y gs' n) → wpAny M A (k (.yielded v)) Q E (s₁.setGen g gs')) :
    wpAny M A (.resume g r l k) Q E s := fun Γ p hΓ => by
  rw [Sem.wp_resume]
  have after : ∀ x s₁, SegEnd R Y n (Seg.next M A R Y n) (s.setGen g .running) x s₁ → x.quiet = true ∧ Sem.wp M Γ (k x.result) (fun a _ s' => Q a s') (fun e _ s' => E e s') p (s₁.setGen g x.genState) := fun x s₁ he => by
    cases x with
    | ret x => exact ⟨rfl, hR x s₁ he Γ p hΓ⟩
    | susp v g₀ l₀ k₀ c₀ p₀ fs₀ =>
      refine ⟨he.1, hY v s₁ _ (End.bare_of_quiet he.1) rfl ?_ Γ p hΓ⟩
      cases n <;> exact he.2
  cases gs with
  | fresh c =>
    obtain ⟨rfl, hs⟩ := hgo
    obtain ⟨x, s₁, hr, he⟩ := seg_iff.mp hs (Γ.wake c p) p rfl (Ctx.In.wake hΓ c p)
    exact ⟨_, _, by unfold Wakes; rw [hg]; exact ⟨x, s₁, hr, (after x s₁ he).1, rfl, rfl⟩, (after x s₁ he).2⟩
  | suspended k₀ l₀ c₀ p₀ fs₀ cl =>
    obtain ⟨x, s₁, hr, he⟩ := seg_iff.mp hgo (Γ.wake c₀ p) p₀ rfl (Ctx.In.wake hΓ c₀ p)
    exact ⟨_, _, by unfold Wakes; rw [hg]; exact ⟨x, s₁, hr, (after x s₁ he).1, rfl, rfl⟩, (after x s₁ he).2⟩
  | running => exact hgo.elim
  | finished => exact hgo.elim
theorem next_genS {P : Program} {w : World} {A : Around} {E : Value → Shared → Prop} {s : Shared} {a : Addr} {g n : Nat} {gs : GenState} {F : Shared → Shared → Prop} {Y : Protocol} {Q : Option Value → Shared → Prop} (hh : A.handled = none)
    (hl : s.heap.NoLimit) (hroom : A.depth < recursionLimit) (hg : s.heap.IsGen a g) (hgs : s.gens[g]? = some gs)
    (hgo : gs.Goes (model P w) A.in1 (fun n s₀ r s₁ => ((r = .ok (.ret .none) ∨ r = .ok .next) ∧ F s₀ s₁) ∨ ∃ x, r = .error x ∧ (fun _ _ => False : Value → Shared → Prop) x s₁) Y n (.send .none) (s.setGen g .running))
    (hY : ∀ v s₁ gs', gs'.bare = true → GenState.slp gs' = true → Y (n - 1) (s.setGen g .running) v s₁ (kapOf (model P w) A.in1 (fun n s₀ r s₁ => ((r = .ok (.ret .none) ∨ r = .ok .next) ∧ F s₀ s₁) ∨ ∃ x, r = .error x ∧ (fun _ _ => False : Value → Shared → Prop) x s₁) Y gs' n) → Q (some v) (s₁.setGen g gs'))
    (hP : ∀ s₁, F (s.setGen g .running) s₁ → ∀ h', (∀ b o, s₁.heap.get? b = some o → h'.get? b = some o) → Q none { s₁.setGen g .finished with heap := h' }) :
    wpAny (model P w) A (pyNext (.ref a)) Q E s := by
  unfold pyNext
  refine wpAny_bind (wpAny_attempt (wpAny_callSpecial?_slot (name := Str.ofString "__next__") hg.typeIs slot_gen_next (wpAny_call_entry slot_gen_next hg.typeIs entry_gen_next ?_ (args_gen_next _))))
  show wpAny _ A.in1 (Builtin.Generator.genWake (.ref a) (.send .none)) _ _ s
  unfold Builtin.Generator.genWake
  refine wpAny_bind (wpAny_holding (wpAny_genNumber hg (wpAny_bind (wpAny_genState hgs ?_))))
  cases gs with
  | running => exact hgo.elim
  | finished => exact hgo.elim
  | _ =>
    refine wpAny_bind (wpAny_roomToWake hl hroom ?_)
    show wpAny _ A.in1 (.resume g (.send .none) [] _) _ _ s
    refine wpAny_resumeS hgs hgo (fun x s₁ hx => ?_) (fun v s₁ gs' hb hs hv => ?_)
    · rcases hx with ⟨hr, hp⟩ | ⟨e, _, he⟩
      · have hres : End.result (.ret x) = .returned .none := by rcases hr with hr | hr <;> rw [hr] <;> rfl
        first | rw [hres] | simp only [hres]
        show wpAny _ A.in1 (newExc (.type "StopIteration") [] >>= _) _ _ _
        refine wpAny_bind ?_
        simp only [newExc, newTuple]
        refine wpAny_bind (wpAny_newObj_type ?_ (by size_fits))
        refine wpAny_bind (m := firstArgMember _ _) (wpAny_of_eq (a := Value.none) (by first | rfl | (simp only [firstArgMember]; rfl)) (wpAny_newObj_type ?_ (by size_fits)))
        simp only [raiseNew]
        refine wpAny_bind (wpAny_bind (wpAny_handled ?_))
        first | rw [show A.in1.handled = none from hh] | rw [hh]
        refine wpAny_throw (wpAny_bind (wpAny_isInstance (T := "StopIteration") (b := true) ⟨_, Heap.get?_push_size _ rfl, rfl⟩ isSubtype_stop ?_))
        exact wpAny_pure (hP s₁ hp _ fun b o hb => Heap.get?_push_of_some _ (Heap.get?_push_of_some _ hb))
      · exact he.elim
    · exact wpAny_pure ⟨v, rfl, wpAny_pure (hY v s₁ gs' hb hs hv)⟩
end
end K30X
namespace K30X
open PySem PySem.Spec PyProof.Rows L2
/-! ### for .. in o.written_blocks() -/
section
theorem wpAny_pzR {α : Type} {M : Model} {A : Around} {t : Sem α} {Q : α → Shared → Prop} {E : Value → Shared → Prop} {s : Shared} {m G : Array GenState} (r : Rk m G s.gens) (h : wpAny M A t Q E { s with gens := G }) :
    wpAny M A t (fun a s' => ∃ G', Rk m G' s'.gens ∧ Q a { s' with gens := G' }) (fun e s' => ∃ G', Rk m G' s'.gens ∧ E e { s' with gens := G' }) s :=
  fun Γ p hΓ => wp_pz M Γ m t _ _ p { s with gens := G } s.gens r (h Γ p hΓ)
/-- what is wanted of an exception does not hang on who sleeps -/
def XeOk (X : Cx) : Prop := ∀ (m G : Array GenState) (e : Value) (s : Shared), Rk m G s.gens → X.xe e { s with gens := G } → X.xe e s
theorem CX_gens {P : Program} {w : World} {outer : List Env} {H : Hp} {s : Shared} {E : XK} {u : Value} {s' : Shared} {m G : Array GenState} (r : Rk m G s'.gens) (h : CX P w outer H s E u { s' with gens := G }) : CX P w outer H s E u s' := by
  obtain ⟨a, B, H', cls, d, h1, h2, h3, h4, h5, h6, h7, h8⟩ := h
  exact ⟨a, B, H', cls, d, h1, h2, h3, h4, h5, h6, r.bareR h7, h8⟩
theorem xeOk_cx {P : Program} {w : World} {K : PySem.W.Frag} {mg : Str → Option Value} {base : Heap} {N : List Str} {qual : Str} {scope : Scope} {f : Addr} {cd : Value} {A : Around} {outer : List Env} {s : Shared} {H : Hp} {E : XK} :
    XeOk (cxOf (CX P w) P w K mg base N qual scope f cd A outer s H E) := fun m G e s1 r h =>
  wpAny_mono (wpAny_pzR (s := s1) r h) (fun _ s2 ⟨G', r', q⟩ => CX_gens r' q) fun _ s2 ⟨G', r', q⟩ => CX_gens r' q
variable {X : Cx} {pins : List (Addr × Obj)} {σ : L2.St} {H : Hp} {s : Shared}
theorem Inv_gens {G : Array GenState} (I : Inv X pins σ H s) (h : AllBare G) : Inv X pins σ H { s with gens := G } := ⟨I.ok, I.os, h, I.base, I.loc, I.cell, I.free, I.freeC, I.pin, I.hok, I.len⟩
theorem Inv_real {m G : Array GenState} (r : Rk m G s.gens) (I : Inv X pins σ H { s with gens := G }) : Inv X pins σ H s := Inv_gens (s := { s with gens := G }) I (r.bareR I.bare)
theorem Rk0 (G : Array GenState) : Rk G (G.map poison) G := ⟨Rl.start G, by simp⟩
theorem pg_kept {tg : Expr} {g : TG} {x : V} {u : Value} {Q : L2.St → Hp → Prop} (hxe : XeOk X) (hg : PG X tg g) (I : Inv X pins σ H s) (r : RelV x u) (h : g x σ H Q) :
    wpAny (model X.prog X.w) X.A (assign tg X.env u) (fun _ s' => (∃ σ' H', Inv X pins σ' H' s' ∧ Q σ' H') ∧ SlpKept s.gens s'.gens) X.xe s :=
  wpAny_mono (wpAny_pzR (Rk0 s.gens) (hg.run pins { s with gens := s.gens.map poison } σ H x u Q (Inv_gens I ((Rk0 s.gens).bareP I.bare)) r h)) (fun _ s' ⟨G, r', σ', H', I', q⟩ => ⟨⟨σ', H', Inv_real r' I', q⟩, r'.kept⟩) fun e s' ⟨G, r', q⟩ => hxe _ _ _ _ r' q
theorem pss_kept {body : List Stmt} {tb : TS} {D : Ends} (hxe : XeOk X) (hb : PSs X body tb) (I : Inv X pins σ H s) (h : tb D σ H) :
    wpAny (model X.prog X.w) X.A (execs body X.env) (fun f s' => SP X pins D f s' ∧ SlpKept s.gens s'.gens) X.xe s :=
  wpAny_mono (wpAny_pzR (Rk0 s.gens) (hb.run pins { s with gens := s.gens.map poison } σ H D (Inv_gens I ((Rk0 s.gens).bareP I.bare)) h)) (fun f s' ⟨G, r', q⟩ => ⟨by
    cases f with
    | next => obtain ⟨σ', H', I', q⟩ := q; exact ⟨σ', H', Inv_real r' I', q⟩
    | brk => obtain ⟨σ', H', I', q⟩ := q; exact ⟨σ', H', Inv_real r' I', q⟩
    | cont => obtain ⟨σ', H', I', q⟩ := q; exact ⟨σ', H', Inv_real r' I', q⟩
    | ret u => obtain ⟨v, σ', H', I', r1, q⟩ := q; exact ⟨v, σ', H', Inv_real r' I', r1, q⟩, r'.kept⟩) fun e s' ⟨G, r', q⟩ => hxe _ _ _ _ r' q
/-- others' records have turned -/
theorem Inv_turn {s' : Shared} {ch : List Addr} (I : Inv X pins σ H s) (k : ∀ b o, b ∉ ch → s.heap.get? b = some o → s'.heap.get? b = some o) (os : s'.os = s.os) (bare : AllBare s'.gens) (hf : ∀ b ∈ ch, FpOk X pins H b) : Inv X pins σ H s' := by
  have nit : ∀ b u, H b = some u → b ∉ ch := fun b u e z => by
    rw [(hf b z).1] at e; cases e
  refine I.call' (ch := ch) os ⟨fun b o e _ _ hx => k b o hx e, fun b o e _ _ hx => ⟨o.slots, k b o hx e⟩, fun _ _ _ n _ => n, fun b o e hx => ⟨o, k b o hx e⟩, fun _ _ e => e, fun _ _ _ e => e, fun b ps e => ⟨#[], by rw [e]; simp⟩⟩ (fun b u e => ?_) bare
    fun b hb => ⟨(hf b hb).2.2.2.1, (hf b hb).2.1, (hf b hb).2.2.2.2.1, (hf b hb).2.2.2.2.2⟩
  refine (I.hok b u e).stay (fun c v hc q => k c v ?_ q) (fun _ q => q) fun _ _ q => q
  rcases hc with z | z
  · rw [z]; exact nit b u e
  · exact nit c _ z
theorem Inv_turnNew {s' : Shared} {ch : List Addr} {T : Addr} {ob : HO} (I : Inv X pins σ H s) (k : ∀ b o, b ∉ ch → s.heap.get? b = some o → s'.heap.get? b = some o) (os : s'.os = s.os) (bare : AllBare s'.gens) (hf : ∀ b ∈ ch, FpOk X pins H b)
    (hT : s.heap.objs.size ≤ T) (new : ObjOk X.prog X.w (upd H T ob) s'.heap T ob) : Inv X pins σ (upd H T ob) s' := by
  have hn : H T = none := I.hok.fresh hT
  have nit : ∀ b u, H b = some u → b ∉ ch := fun b u e z => by
    rw [(hf b z).1] at e; cases e
  refine I.call' (ch := ch) os ⟨fun b o e _ _ hx => k b o hx e, fun b o e _ _ hx => ⟨o.slots, k b o hx e⟩, fun b o e n _ => ?_, fun b o e hx => ⟨o, k b o hx e⟩, fun b xs e => ?_, fun b o u e => ?_, fun b ps e => ⟨#[], ?_⟩⟩ (fun b u e => ?_) bare
    fun b hb => ⟨(hf b hb).2.2.2.1, (hf b hb).2.1, (hf b hb).2.2.2.2.1, (hf b hb).2.2.2.2.2⟩
  · rw [upd_ne (Nat.ne_of_lt (Nat.lt_of_lt_of_le (Heap.lt_size e) hT))]; exact n
  · rw [upd_ne (ne_of_none e hn)]; exact e
  · rw [upd_ne (ne_of_none e hn)]; exact e
  · rw [upd_ne (ne_of_none e hn), e]; simp
  · by_cases hb : b = T
    · subst hb
      rw [upd_same] at e
      cases e
      exact new
    · rw [upd_ne hb] at e
      refine (I.hok b u e).stay (fun c v hc q => k c v ?_ q) (fun c q => by rw [upd_ne (ne_of_none q hn)]; exact q) fun c xs q => by rw [upd_ne (ne_of_none q hn)]; exact q
      rcases hc with z | z
      · rw [z]; exact nit b u e
      · exact nit c _ z
end
end K30X
namespace K30X
open PySem PySem.Spec PyProof.Rows L2
/-! ### the rule -/
section
variable {X : Cx}
/-- for tg in o.written_blocks(): the pairs (j, block) of the list l, None left out -/
def tForW (C : Addr) (ta : TE) (g : TG) (tb : TS) : TS := fun D σ H => ta σ H fun x H1 => ∃ (dv dx l : Addr) (fs : List (Str × V)) (xs : List V) (Pv : Nat → L2.St → Hp → Prop), x = .ref dv ∧ H1 dv = some (.ins C dx fs) ∧ fs.lookup ("written_blocks" : Str) = none ∧ fs.lookup ("seen" : Str) = some (.ref l) ∧
  (∀ v ∈ xs, v = .non ∨ ∃ a, v = .ref a) ∧ Pv 0 σ H1 ∧ (∀ i σ H, Pv i σ H → H l = some (.lst xs)) ∧ (∀ i σ H, i ≤ xs.length → Pv i σ H → (∀ k v, i ≤ k → xs[k]? = some v → v = .non) → D.nx σ H) ∧
  ∀ i j σ H a, Pv i σ H → i ≤ j → xs[j]? = some (.ref a) → (∀ k, i ≤ k → k < j → xs[k]? = some .non) → ∀ T, H T = none → g (.ref T) σ (upd H T (.tup [.int (j : Nat), .ref a])) fun σ2 H2 => tb { D with nx := Pv (j + 1), ct := Pv (j + 1), bk := D.nx } σ2 H2
theorem plain_non {x : V} {u : Value} (r : RelV x u) (h : x = .non ∨ ∃ a, x = .ref a) : plainIs u .none = true ∧ (u = .none ↔ x = .non) := by
  rcases h with rfl | ⟨a, rfl⟩
  · obtain rfl : u = Value.none := r
    exact ⟨rfl, ⟨fun _ => rfl, fun _ => rfl⟩⟩
  · obtain rfl : u = Value.ref a := r
    exact ⟨rfl, ⟨fun e => (by cases e), fun e => (by cases e)⟩⟩
theorem ps_forW {o : Expr} {ta : TE} {C f : Addr} {x qual : Str} {params : Arguments} {scope : Scope} {fd : FuncData} {N : List Str} {tg : Expr} {body : List Stmt} {g : TG} {tb : TS} {apos pos pos' : Pos} {pl : Sem Bool} {k1 k2 k3 : Nat} {p1 p2 p3 q1 q2 q3 q4 y1 y2 y3 y4 y5 z1 z2 z3 z4 z5 : Pos}
    (hp : PassesOwn (model X.prog X.w) X.A X.env X.xe) (hc : X.calm = true) (hxe : XeOk X) (hr : Room 1 X.A) (ho : PE X o ta) (c : Cls X.K C) (na : NoAttr X.K C "seen") (hm : Meth X.K C "written_blocks" f)
    (F : FunD X.K x qual params (wbBody k1 k2 k3 p1 p2 p3 q1 q2 q3 q4 y1 y2 y3 y4 y5 z1 z2 z3 z4 z5) scope [] [] f fd) (S : GScope N ["self"] scope) (hsn : scope.names.lookup ("self" : Str) = some .local) (hbd : Binds X.K fd ["self"] []) (hme : X.mg "enumerate" = none)
    (we : ∀ (L f : Addr) (cd : Value), WEnvF (envOfC qual scope L f cd)) (hg : PG X tg g) (hb : PSs X body tb)
    (hbase : ∀ env, attributeBase (.Name "self" z2) "seen" env (eval (.Name "self" z2) env) = eval (.Name "self" z2) env)
    (ht : eval (.Call (.Attribute o "written_blocks" apos) [] [] pos') X.env = (do
      let ov ← eval o X.env
      standAt apos.atName
      let (f, first) ← holding [ov] (getMethod ov "written_blocks" pl)
      callWith pos' f first (backTo pos' (starEach [] X.env)) (backToKw pos' (keywordEach [] X.env))) := by rfl)
    (hs : ∀ x, foldedSetIterable (.Call (.Attribute o "written_blocks" apos) [] [] pos') X.env x = pure x := by intro _; rfl) :
    PS X (.For tg (.Call (.Attribute o "written_blocks" apos) [] [] pos') body [] pos) (tForW C ta g tb) := by
  refine ⟨fun pins s σ H D I h => ?_⟩
  refine wpAny_For (PySem.W.methodCall_KW (pl := pl) (thn (ho.run pins s σ H _ I h) fun u s1 ⟨x, H1, I1, rx, dv, dx, l, fs, xs, Pv, ex, ea, l1, l2, hxs, P0, hPl, hPe, hPs⟩ => ?_) ht) hs
  subst ex
  obtain rfl : u = Value.ref dv := rx
  refine getmeth_ok I1 ea c hm l1 ?_
  refine PySem.W.callWith_K0 (first := [.ref dv]) I1.kIn hm.kp (thn (call_wb I1 hr F S hsn hbd) fun u s2 hh2 => ?_)
  obtain ⟨gn, env, a, cdv, rfl, he, I2, hgen, hgs, hns, ha1, haL, hLs, hacell, hkp⟩ := hh2
  have wenv : WEnvF env := by rw [he]; exact we _ _ _
  have eL : env.locals = s1.heap.objs.size := by rw [he]; rfl
  refine wpAny_pyIter_gen hgen ?_
  have hal : a < s2.heap.objs.size := by obtain ⟨oa, hoa, _⟩ := hacell; exact Heap.lt_size hoa
  have hlat : ∀ {σ' : L2.St} {H' : Hp} {s' : Shared} {i : Nat}, Inv X pins σ' H' s' → Pv i σ' H' → ∃ its : Array Value, s'.heap.IsList l its ∧ its.size = xs.length ∧ (∀ x ∈ its, plainIs x .none = true) ∧ ∀ (j : Nat) (u : Value), its[j]? = some u → ∃ v, xs[j]? = some v ∧ RelV v u ∧ (v = .non ∨ ∃ a, v = .ref a) := fun {σ' H' s' i} I' p' => by
    obtain ⟨its, rv, pl', _⟩ := I'.list (SqL.of (hPl i σ' H' p'))
    have hlen := rv.length
    have get : ∀ (j : Nat) (u : Value), its.toArray[j]? = some u → ∃ v, xs[j]? = some v ∧ RelV v u ∧ (v = .non ∨ ∃ a, v = .ref a) := fun j u hj => by
      have hj' : its[j]? = some u := by simpa using hj
      have hjl : j < xs.length := by
        have := (List.getElem?_eq_some_iff.mp hj').1
        omega
      obtain ⟨u', hu', ru⟩ := rv.get (List.getElem?_eq_getElem hjl)
      rw [hj'] at hu'
      cases hu'
      exact ⟨_, List.getElem?_eq_getElem hjl, ru, hxs _ (List.getElem_mem hjl)⟩
    refine ⟨its.toArray, pl'.isList, by simp; omega, fun x hx => ?_, get⟩
    obtain ⟨j, hj, e⟩ := Array.mem_iff_getElem.mp hx
    obtain ⟨v, _, rv', hv'⟩ := get j x (by rw [Array.getElem?_eq_getElem hj, e])
    exact (plain_non rv' hv').1
  have hlL : l ≠ env.locals := fun z => by
    have e1 := hPl 0 σ H1 P0
    rw [z, eL, I1.hok.fresh (Nat.le_refl _)] at e1
    cases e1
  let it := s2.heap.objs.size
  let e := it + 1
  let fp : List Addr := [env.locals, a, e, it]
  have fpN : ∀ {H' : Hp}, H' env.locals = none → H' a = none → H' e = none → H' it = none → ∀ b ∈ fp, FpOk X pins H' b := fun {H'} h1 h2 h3 h4 b hb => by
    have hb' : b = env.locals ∨ b = a ∨ b = e ∨ b = it := by simpa [fp] using hb
    rcases hb' with rfl | rfl | rfl | rfl
    · exact I1.fpOk (by rw [eL]; exact Nat.le_refl _) h1
    · exact I1.fpOk ha1 h2
    · exact I2.fpOk (Nat.le_succ _) h3
    · exact I2.fpOk (Nat.le_refl _) h4
  have fr0 : ∀ b ∈ fp, FpOk X pins H1 b := fpN (by rw [eL]; exact I1.hok.fresh (Nat.le_refl _)) (I1.hok.fresh ha1) (I2.hok.fresh (Nat.le_succ _)) (I2.hok.fresh (Nat.le_refl _))
  have fpT : ∀ {H' : Hp} {T : Addr} {ob : HO}, (∀ b ∈ fp, FpOk X pins H' b) → (∀ b ∈ fp, T ≠ b) → ∀ b ∈ fp, FpOk X pins (upd H' T ob) b := fun {H' T ob} hf ht b hb => ⟨by rw [upd_ne (Ne.symm (ht b hb))]; exact (hf b hb).1, (hf b hb).2⟩
  let Rr := RW env.locals e it l
  let Yy := YW env.locals e it l xs.length
  refine codeAny_forLoop_any (fun n s' => ∃ i σ' H', n = xs.length - i ∧ i ≤ xs.length ∧ Inv X pins σ' H' s' ∧ (∀ b ∈ fp, FpOk X pins H' b) ∧ s'.heap.IsGen a gn ∧ Pv i σ' H' ∧
    ((i = 0 ∧ H' = H1 ∧ s'.gens[gn]? = some (.fresh (.func (wbBody k1 k2 k3 p1 p2 p3 q1 q2 q3 q4 y1 y2 y3 y4 y5 z1 z2 z3 z4 z5) env)) ∧ s'.heap.objs.size = it ∧ ∃ m, s'.heap.Ns env.locals m ∧ m ("self" : Str) = some (.ref dv)) ∨
     (Zs env.locals e it l i s'.heap ∧ ∃ (n' : Nat) (gs : GenState), s'.gens[gn]? = some gs ∧ GenState.slp gs = true ∧
        ∀ s'' : Shared, Zs env.locals e it l i s''.heap → (∃ its, s''.heap.IsList l its ∧ its.size = xs.length ∧ ∀ x ∈ its, plainIs x .none = true) → kapOf (model X.prog X.w) X.A.in1 Rr Yy gs n' (.send .none) s''))) ?_ xs.length
    ⟨0, σ, H1, by omega, Nat.zero_le _, I2, fr0, hgen, P0, .inl ⟨rfl, rfl, hgs, rfl, hns⟩⟩
  rintro n s3 ⟨i, σ3, H3, hn, hiN, I3, fr3, hgen3, p3', cas⟩
  obtain ⟨its, hlist, hsz, hpl, hget⟩ := hlat I3 p3'
  have hAt : AtP it l s3.heap i := by
    rcases cas with ⟨h0, _, _, h1, _⟩ | ⟨z, _⟩
    · exact .inl ⟨h0, Nat.le_of_eq h1⟩
    · exact .inr z.li
  have go : ∃ (n' : Nat) (gs : GenState), s3.gens[gn]? = some gs ∧ gs.Goes (model X.prog X.w) X.A.in1 Rr Yy n' (.send .none) (s3.setGen gn .running) := by
    rcases cas with ⟨h0, h1, h2, h3, m, h4, h5⟩ | ⟨z, n', gs, h1, h2, h3⟩
    · subst h1
      refine ⟨xs.length, _, h2, rfl, ?_⟩
      exact seg_wbFunc (P := X.prog) (w := X.w) (K := X.K) (mg := X.mg) (base := X.base) (A := X.A.in1) (s := s3.setGen gn .running) (e := e) (it := it) (items := its) (I3.ok.hd hc) wenv I3.mod hme (fun b o q => I3.bk b o q) h4 h5 I3.hok ea c na l2 hlist hlL hsz hpl h3 rfl xs.length (Nat.le_refl _) (hbase _)
    · have q := h3 (s3.setGen gn .running) z ⟨its, hlist, hsz, hpl⟩
      cases n' with
      | zero => exact q.elim
      | succ m => exact ⟨m, gs, h1, q⟩
  obtain ⟨n', gs, hgs3, hgo⟩ := go
  have stop : ∀ k v, i ≤ k → xs[k]? = some v → (∀ k u, i ≤ k → its[k]? = some u → u = .none) → v = .non := fun k v h1 h2 h3 => by
    have hk : k < its.size := by rw [hsz]; exact (List.getElem?_eq_some_iff.mp h2).1
    obtain ⟨v', e1, rv, hv'⟩ := hget k its[k] (Array.getElem?_eq_getElem hk)
    rw [h2] at e1; cases e1
    exact (plain_non rv hv').2.mp (h3 k _ h1 (Array.getElem?_eq_getElem hk))
  have keepCh : ∀ {h' : Heap}, (∀ b o, b ≠ env.locals → b ≠ e → b ≠ it → s3.heap.get? b = some o → h'.get? b = some o) → ∀ b o, b ∉ fp → s3.heap.get? b = some o → h'.get? b = some o := fun {h'} k b o hb q => k b o (fun z => hb (by simp [fp, z])) (fun z => hb (by simp [fp, z])) (fun z => hb (by simp [fp, z])) q
  refine wpAny_passesOwn hp (next_genS (F := EW env.locals e it l) (Y := Yy) (n := n') (I3.ok.hd hc) I3.nolimit (by have := hr.dp; omega) hgen3 hgs3 hgo (fun v s4 gs' hbare hslp hv => ?_) fun s4 hE h' hk' => ?_)
  · -- an item
    obtain ⟨j, u, tk, T, items, hij, hl4, hu, hune, hskip, rfl, hT, hTL, hTe, hTit, hTo, kp4, zz, hkap⟩ := hv i hAt
    have ei : items = its := by
      obtain ⟨o1, g1, c1, n1, d1⟩ := hl4
      obtain ⟨o2, g2, c2, n2, d2⟩ := hlist
      have g1' : s3.heap.get? l = some o1 := g1
      rw [g1'] at g2; cases g2
      rw [d1] at d2
      injection d2
    subst ei
    obtain ⟨xv, hxj, rxv, hxv⟩ := hget j u hu
    have hxr : ∃ b, xv = .ref b := by
      rcases hxv with rfl | h
      · exact absurd rxv hune
      · exact h
    obtain ⟨b, rfl⟩ := hxr
    have hskip' : ∀ k, i ≤ k → k < j → xs[k]? = some .non := fun k h1 h2 => by
      obtain ⟨v', e1, rv, hv'⟩ := hget k _ (hskip k h1 h2)
      rw [e1, (plain_non rv hv').2.mp rfl]
    have hTs : s3.heap.objs.size ≤ T := hT
    have hTa : T ≠ a := by
      obtain ⟨oa, _, _, hoa, _⟩ := hgen3
      exact Nat.ne_of_gt (Nat.lt_of_lt_of_le (Heap.lt_size hoa) hTs)
    have hTfp : ∀ b ∈ fp, T ≠ b := fun b hb => by
      have hb' : b = env.locals ∨ b = a ∨ b = e ∨ b = it := by simpa [fp] using hb
      rcases hb' with rfl | rfl | rfl | rfl <;> assumption
    have bare4 : AllBare (s4.setGen gn gs').gens := allBare_setGen (by rw [kp4.gens]; exact allBare_setGen I3.bare rfl) hbare
    have I4 : Inv X pins σ3 (upd H3 T (.tup [.int (j : Nat), .ref b])) (s4.setGen gn gs') := Inv_turnNew (ch := fp) I3 (keepCh kp4.keep) kp4.os bare4 fr3 hTs
      ⟨by show 2 ≤ sizeLine; decide, [.int j tk, u], .cons ⟨_, rfl⟩ (.cons rxv .nil), ⟨_, hTo, rfl, _, rfl⟩⟩
    have fr4 := fpT (ob := .tup [.int (j : Nat), .ref b]) fr3 hTfp
    have hgen4 : (s4.setGen gn gs').heap.IsGen a gn := by
      obtain ⟨oa, nm, qn, hoa, r⟩ := hgen3
      refine ⟨oa, nm, qn, kp4.keep a oa haL ?_ ?_ hoa, r⟩
      · exact Nat.ne_of_lt (Nat.lt_succ_of_lt hal)
      · exact Nat.ne_of_lt hal
    have hgl : gn < s4.gens.size := by
      rw [kp4.gens]
      have q : (s3.setGen gn .running).gens.size = s3.gens.size := GenW.setGen_size _ _ _
      rw [q]
      exact (Array.getElem?_eq_some_iff.mp hgs3).1
    have hgs4 : (s4.setGen gn gs').gens[gn]? = some gs' := setGen_at hgl
    have cells : ∀ b ∈ fp, ∃ o, (s4.setGen gn gs').heap.get? b = some o ∧ ∀ v, o.data ≠ .cell v := fun b hb => by
      have hb' : b = env.locals ∨ b = a ∨ b = e ∨ b = it := by simpa [fp] using hb
      rcases hb' with rfl | rfl | rfl | rfl
      · obtain ⟨m, o, es, ep, h1, h2, _⟩ := zz.ns
        exact ⟨o, h1, fun v q => by rw [h2] at q; cases q⟩
      · obtain ⟨oa, nm, qn, h1, _, h2, _⟩ := hgen4
        exact ⟨oa, h1, fun v q => by rw [h2] at q; cases q⟩
      · obtain ⟨old, h1⟩ := zz.en
        exact ⟨_, h1, fun v q => by cases q⟩
      · obtain ⟨o, h1, _, h2⟩ := zz.li
        exact ⟨o, h1, fun v q => by rw [h2] at q; cases q⟩
    have I5 := I4.pinned fr4 cells
    obtain ⟨oa, nm, qn, hoa, hoc, hod, hosl⟩ := id hgen4
    refine wpAny_passesOwn hp (go_of (n := "generator") hoa hoc hod (by decide) ?_)
    refine wpAny_passesOwn hp (thn (pg_kept hxe hg I5 (show RelV (.ref T) (.ref T) from rfl) (hPs i j σ3 H3 b p3' hij hxj hskip' T (I3.hok.fresh hTs))) fun _ s6 ⟨⟨σ6, H6, I6, q6⟩, sk6⟩ => ?_)
    refine wpAny_passesOwn hp (thn (pss_kept hxe hb I6 q6) fun fl s7 ⟨q7, sk7⟩ => ?_)
    have hgs7 : s7.gens[gn]? = some gs' := sk7 gn gs' (sk6 gn gs' hgs4 hslp) hslp
    have hjl : j < xs.length := (List.getElem?_eq_some_iff.mp hxj).1
    have again : ∀ {σ7 : L2.St} {H7 : Hp}, Inv X (pins ++ pinsAt fp (s4.setGen gn gs').heap) σ7 H7 s7 → Pv (j + 1) σ7 H7 → ∃ m, m < n ∧ ∃ i σ' H', m = xs.length - i ∧ i ≤ xs.length ∧ Inv X pins σ' H' s7 ∧ (∀ b ∈ fp, FpOk X pins H' b) ∧ s7.heap.IsGen a gn ∧ Pv i σ' H' ∧
        ((i = 0 ∧ H' = H1 ∧ s7.gens[gn]? = some (.fresh (.func (wbBody k1 k2 k3 p1 p2 p3 q1 q2 q3 q4 y1 y2 y3 y4 y5 z1 z2 z3 z4 z5) env)) ∧ s7.heap.objs.size = it ∧ ∃ m, s7.heap.Ns env.locals m ∧ m ("self" : Str) = some (.ref dv)) ∨
         (Zs env.locals e it l i s7.heap ∧ ∃ (n' : Nat) (gs : GenState), s7.gens[gn]? = some gs ∧ GenState.slp gs = true ∧
            ∀ s'' : Shared, Zs env.locals e it l i s''.heap → (∃ its, s''.heap.IsList l its ∧ its.size = xs.length ∧ ∀ x ∈ its, plainIs x .none = true) → kapOf (model X.prog X.w) X.A.in1 Rr Yy gs n' (.send .none) s'')) := fun {σ7 H7} I7 p7 => by
      have kp7 : ∀ b ∈ fp, ∀ o, (s4.setGen gn gs').heap.get? b = some o → s7.heap.get? b = some o := fun b hb o q => (I7.pin (b, o) (List.mem_append_right _ (List.mem_append_right _ (mem_pinsAt hb q)))).1
      refine ⟨xs.length - (j + 1), by omega, j + 1, σ7, H7, rfl, hjl, I7.unpinned, fun b hb => ?_, ?_, p7, .inr ⟨zz.keeps fun b hb o q => kp7 b ?_ o q, n', gs', hgs7, hslp, hkap⟩⟩
      · obtain ⟨o, q, d⟩ := cells b hb
        exact ⟨(I7.pin (b, o) (List.mem_append_right _ (List.mem_append_right _ (mem_pinsAt hb q)))).2.1, (fr0 b hb).2⟩
      · exact ⟨oa, nm, qn, kp7 a (by simp [fp]) oa hoa, hoc, hod, hosl⟩
      · rcases hb with rfl | rfl | rfl <;> simp [fp]
    cases fl with
    | next => obtain ⟨σ7, H7, I7, n7⟩ := q7; exact again I7 n7
    | cont => obtain ⟨σ7, H7, I7, n7⟩ := q7; exact again I7 n7
    | brk => obtain ⟨σ7, H7, I7, q7⟩ := q7; exact ⟨σ7, H7, I7.unpinned, q7⟩
    | ret v => obtain ⟨x7, σ7, H7, I7, r7, q7⟩ := q7; exact ⟨x7, σ7, H7, I7.unpinned, r7, q7⟩
  · -- the end
    obtain ⟨items, hl4, hall, kp4⟩ := hE i hAt
    have ei : items = its := by
      obtain ⟨o1, g1, c1, n1, d1⟩ := hl4
      obtain ⟨o2, g2, c2, n2, d2⟩ := hlist
      have g1' : s3.heap.get? l = some o1 := g1
      rw [g1'] at g2; cases g2
      rw [d1] at d2
      injection d2
    subst ei
    refine wpAny_execs_nil ⟨σ3, H3, ?_, hPe i σ3 H3 hiN p3' fun k v h1 h2 => stop k v h1 h2 hall⟩
    exact Inv_turn (ch := fp) I3 (keepCh fun b o h1 h2 h3 q => hk' b o (kp4.keep b o h1 h2 h3 q)) kp4.os (allBare_setGen (by rw [kp4.gens]; exact allBare_setGen I3.bare rfl) rfl) fr3
end
end K30X
namespace K30X
open PySem PySem.Spec PyProof.Rows L2
/-! ### calls with keywords -/
section

variable {P : Program} {w : World} {K : PySem.W.Frag} {mg : Str → Option Value} {base : Heap}
/-- a def whose keyword-only parameters are all given -/
structure CalK (P : Program) (w : World) (K : PySem.W.Frag) (mg : Str → Option Value) (base : Heap) (k : Nat) (x : Str) (sp : Sp) (n : Nat) (ks : List Str) : Prop where
  ex : ∃ (f : Addr) (fd : FuncData) (ps : List Str), FnOk P w K mg base C8.CX0 k f fd ps sp ∧ mg x = some (.ref f) ∧ PySem.W.keepIn K (.ref f) = true ∧ KBn K fd ps n ks (fun us ws => us ++ ws) (fun vs zs => vs ++ zs)
structure MetK (P : Program) (w : World) (K : PySem.W.Frag) (mg : Str → Option Value) (base : Heap) (k : Nat) (C : Addr) (m : Str) (sp : Sp) (n : Nat) (ks : List Str) : Prop where
  ex : ∃ (f : Addr) (fd : FuncData) (ps : List Str), Cls K C ∧ Meth K C m f ∧ FnOk P w K mg base C8.CX0 k f fd ps sp ∧ KBn K fd ps n ks (fun us ws => us ++ ws) (fun vs zs => vs ++ zs)
variable {X : Cx} {j k n : Nat} {C : Addr} {ks : List Str} {sp : Sp} {x m : Str} {p pos apos : Pos} {o e : Expr} {es : List Expr} {kws : List Keyword} {ta : TE} {t tk : TA}
theorem pe_cK (c : CalK X.prog X.w X.K X.mg X.base k x sp n ks) (hr : Room j X.A) (hk : k ≤ j) (hg : Gl X x) (ha : PA X (e :: es) t) (hkw : PK X kws tk)
    (hall : (backToKw pos (keywordEach kws X.env)).all (·.1.isSome) = true := by rfl) (hks : (backToKw pos (keywordEach kws X.env)).filterMap (·.1) = ks := by rfl)
    (hdb : (x == ("__debug__" : Str)) = false := by decide) (he : starEach (e :: es) X.env = (false, eval e X.env) :: starEach es X.env := by rfl)
    (hpl : ((backTo pos (starEach (e :: es) X.env)).any (·.1) || (backToKw pos (keywordEach kws X.env)).any (·.1.isNone)) = false := by rfl) :
    PE X (.Call (.Name x p) (e :: es) kws pos) (tCallN n ks.length sp (fun vs zs => vs ++ zs) C8.E0 t tk) := by
  obtain ⟨f, fd, ps, F, hm, kp, b⟩ := c.ex
  exact pe_callN F (hr.mono hk) hg hm kp b C8.pass0 ha hkw hall hks hdb he hpl
/-- o.m(e, .., k = v, ..) -/
def tMethK (C : Addr) (m : Str) (n l : Nat) (sp : Sp) (E : XK) (ta : TE) (t tk : TA) : TE := fun σ H Q => ta σ H fun x H1 => ∃ a dx fs, x = .ref a ∧ H1 a = some (.ins C dx fs) ∧ fs.lookup m = none ∧ t σ H1 fun vs H2 => tk σ H2 fun zs H3 => vs.length + 1 = n ∧ zs.length = l ∧ sp (x :: vs ++ zs) H3 Q E
theorem pe_mtK {pl : Sem Bool} (c : MetK X.prog X.w X.K X.mg X.base k C m sp n ks) (hr : Room j X.A) (hk : k ≤ j) (ho : PE X o ta) (ha : PA X (e :: es) t) (hkw : PK X kws tk)
    (hall : (backToKw pos (keywordEach kws X.env)).all (·.1.isSome) = true := by rfl) (hks : (backToKw pos (keywordEach kws X.env)).filterMap (·.1) = ks := by rfl) (he : starEach (e :: es) X.env = (false, eval e X.env) :: starEach es X.env := by rfl)
    (hpl : ((backTo pos (starEach (e :: es) X.env)).any (·.1) || (backToKw pos (keywordEach kws X.env)).any (·.1.isNone)) = false := by rfl)
    (ht : eval (.Call (.Attribute o m apos) (e :: es) kws pos) X.env = (do
      let ov ← eval o X.env
      standAt apos.atName
      let (f, first) ← holding [ov] (getMethod ov m pl)
      callWith pos f first (backTo pos (starEach (e :: es) X.env)) (backToKw pos (keywordEach kws X.env))) := by rfl) :
    PE X (.Call (.Attribute o m apos) (e :: es) kws pos) (tMethK C m n ks.length sp C8.E0 ta t tk) := by
  obtain ⟨f, fd, ps, hc, hm, F, b⟩ := c.ex
  refine ⟨fun pins s σ H Q I h => ?_⟩
  refine PySem.W.methodCall_KW (pl := pl) (thn (ho.run pins s σ H _ I h) fun u s1 ⟨x, H1, I1, rx, a, dx, fs, ex, ea, l, q⟩ => ?_) ht
  subst ex
  obtain rfl : u = Value.ref a := rx
  refine getmeth_ok I1 ea hc hm l ?_
  refine PySem.W.callWith_KW (h₀ := X.base) I.ok.mod.kin hm.kp hall (thn (ha.run pos pins s1 σ H1 _ I1 q) fun us s2 ⟨vs, H2, I2, r, q2⟩ => ?_) hpl he
  refine thn (hkw.run pos pins s2 σ H2 _ I2 q2) fun ws s3 ⟨zs, H3, I3, rz, l1, l2, q3⟩ => ⟨I3.kIn, ?_⟩
  rw [hks]
  exact run_fnN (us := .ref a :: us) (vs := .ref a :: vs) F (hr.mono hk) b C8.pass0 I3 (.cons rfl r) rz (by simp; omega) l2 q3
end
end K30X
namespace K30X
open PySem PySem.Spec PyProof.Rows L2
/-! ### None in a list of Nones and tuples -/
section
variable {X : Cx}
def NoneT (H : Hp) (z : V) : Prop := z = .non ∨ ∃ a xs, z = .ref a ∧ H a = some (.tup xs)
theorem anyT_non {H : Hp} : ∀ {xs : List V} {us : List Value}, Vals xs us → (∀ z ∈ xs, NoneT H z) → us.any PySem.Numpy.isNone = xs.any isNon := fun {xs us} r => by
  induction r with
  | nil => intro _; rfl
  | cons r1 _ ih =>
    intro f
    rw [List.any_cons, List.any_cons, ih fun z hz => f z (List.mem_cons_of_mem _ hz)]
    congr 1
    rcases f _ List.mem_cons_self with rfl | ⟨a, ys, rfl, _⟩
    · cases r1; rfl
    · cases r1; rfl
theorem memT_non {A : Around} {pins : List (Addr × Obj)} {σ : L2.St} {H : Hp} {s : Shared} (I : Inv X pins σ H s) (hu : A.units < cLine) : ∀ {xs : List V} {us : List Value}, Vals xs us → (∀ z ∈ xs, NoneT H z) → ∀ u ∈ us, SeqAt.EqAt A s u .none (PySem.Numpy.isNone u) := fun {xs us} r => by
  induction r with
  | nil => intro _ u hu'; cases hu'
  | cons r1 _ ih =>
    intro f u' hu'
    rcases List.mem_cons.mp hu' with e | hu'
    · subst e
      rcases f _ List.mem_cons_self with rfl | ⟨a, ys, rfl, ha⟩
      · cases r1
        exact SeqAt.EqAt.same _
      · cases r1
        obtain ⟨its, rv, p, hz⟩ := I.tuple (SqT.of ha)
        exact SeqAt.EqAt.tuple_none p hu
    · exact ih (fun z hz => f z (List.mem_cons_of_mem _ hz)) u' hu'
def rNoneInT (K : PySem.W.Frag) : R2 := fun x y H Q => ∃ p xs, x = .non ∧ y = .ref p ∧ SqL K H p xs ∧ (∀ z ∈ xs, NoneT H z) ∧ Q (.bl (xs.any isNon)) H
theorem op_noneInT (hu : X.A.units + 64 < cLine) : OpR X (compareOp .In) (rNoneInT X.K) := by
  intro pins s σ H x y v u Q I rx ry h
  obtain ⟨p, xs, rfl, rfl, hq, f, q⟩ := h
  cases rx
  cases ry
  obtain ⟨its, rv, hl, _⟩ := I.list hq
  refine SeqAt.in_listAt PySem.Numpy.isNone hl.isList (fun z hz => memT_non I (A := X.A.in1) (by show X.A.units + 1 < cLine; omega) rv f z (by simpa using hz)) ⟨.bl _, H, I, rfl, ?_⟩
  rw [show its.toArray.any PySem.Numpy.isNone = its.any PySem.Numpy.isNone by simp, anyT_non rv f]
  exact q
theorem hu64 {A : Around} {k : Nat} (hr : Room k A) : A.units + 64 < cLine := by have := hr.un; omega
end
end K30X
namespace K30X
open PySem PySem.Spec PyProof.Rows L2
/-! ### max(xs, default = d) of ints -/
section
variable {prog : Program} {w : World} {A : Around} {E : Value → Shared → Prop} {s : Shared} {l : Addr}
theorem max_intListD {xs : Array (Int × Tok)} {d : Value} {Q : Value → Shared → Prop} (hh : A.handled = none) (hl : s.heap.IsList l (intItems xs))
    (h0 : xs.size = 0 → ∀ h' tk, (∀ b o, s.heap.get? b = some o → h'.get? b = some o) → Q d { s with heap := h', toks := tk })
    (h : 0 < xs.size → ∀ v h' tk, (intItems xs)[argBest (fun i j => decide (numAt xs i > numAt xs j)) (xs.size - 1)]? = some v → (∀ b o, s.heap.get? b = some o → h'.get? b = some o) → Q v { s with heap := h', toks := tk }) :
    wpAny (model prog w) A (call (.builtin "max") [.ref l] [(Str.ofString "default", d)]) Q E s := by
  have hsz : (intItems xs).size = xs.size := by simp [intItems]
  refine call_max_walkD (PySem.W.iter_listW (A := A.in1) hh hl fun s₂ e W st hfp hw hk => ?_)
  refine ⟨_, _, _, _, _, _, _, s.heap, (fun i j => decide (numAt xs i > numAt xs j)), rfl, W, st, hfp, hw, hk, fun hz s' m => ?_, fun hp => ⟨fun i j vi vj s2 Q2 E2 _ hi hj q => CmpOf.ints_gt (numAt xs) (fun _ _ => intItems_at) i j vi vj s2 Q2 E2 hi hj q, fun v s' hP m => ?_⟩⟩
  · obtain ⟨h', tk, rfl, hk'⟩ := PySem.W.moved_old e rfl m
    exact h0 (by omega) h' tk hk'
  · obtain ⟨h', tk, rfl, hk'⟩ := PySem.W.moved_old e rfl m
    rw [hsz] at hP
    exact h (by omega) v h' tk hP hk'
end
section
variable {X : Cx}
def rMaxD (K : PySem.W.Frag) : List V → List V → Hp → VK → Prop := fun vs zs H Q => ∃ (a : Addr) (ns : List Int) (d : V), vs = [V.ref a] ∧ zs = [d] ∧ SqL K H a (ns.map V.int) ∧ (ns = [] → Q d H) ∧ ∀ m, m ∈ ns → (∀ y, y ∈ ns → y ≤ m) → Q (.int m) H
theorem ck_maxD (hc : X.calm = true) : CallRK X (.builtin "max") ["default"] (rMaxD X.K) := by
  intro pins s σ H vs zs us ws Q I r rz h
  obtain ⟨a, ns, d, rfl, rfl, hs, q0, q⟩ := h
  obtain ⟨its, rv, hl, _⟩ := I.list hs
  rw [Vals.ref1 r]
  obtain ⟨u, rfl, ru⟩ := vals1 rz
  have hi := rv.ints
  obtain ⟨xs, e⟩ := hi.allInts.items
  have hn : numsOf (intItems xs).toList = ns := by rw [← e]; exact hi.numsOf
  rw [nums_intItems] at hn
  have hl' := hl.isList
  rw [e] at hl'
  refine max_intListD (I.ok.hd hc) hl' (fun hz h' tk hk => ⟨d, H, I.kept hk, ru, q0 ?_⟩) fun hp v h' tk hv hk => ?_
  · rw [← hn]
    apply List.eq_nil_of_length_eq_zero
    rw [List.length_map, Array.length_toList]; exact hz
  · obtain ⟨t, rfl⟩ := intItems_at hv
    obtain ⟨h1, h2⟩ := argBest_gt (numAt xs) (xs.size - 1)
    subst hn
    refine ⟨.int _, H, I.kept hk, ⟨t, rfl⟩, q _ ?_ fun b hb => ?_⟩
    · rw [numAt_eq]; exact PySem.getD_mem (by rw [List.length_map, Array.length_toList]; omega)
    · obtain ⟨j, hj, rfl⟩ := mem_getD hb
      rw [List.length_map, Array.length_toList] at hj
      rw [← numAt_eq]; exact h2 j (by omega)
end
end K30X
namespace K30X
open PySem PySem.Spec PyProof.Rows L2
/-! ### list(zip(xs, ys)) -/
section
variable {P : Program} {w : World} {A : Around} {R : Result → Shared → Prop}
theorem nolen_zip : typeLookup (.type "zip") "__len__" = pure none := by rw [typeLookup_type, builtinLookup_eq_fast]; kernel_rfl
theorem nohint_zip : typeLookup (.type "zip") "__length_hint__" = pure none := by rw [typeLookup_type, builtinLookup_eq_fast]; kernel_rfl
structure ZEnd (h0 h : Heap) (S : Addr) (xs ys : Array Value) (B : Addr) (ts : List Addr) : Prop where
  hS : ∃ c, h.get? S = some (lstObj (ts.map Value.ref).toArray c)
  pr : ∀ (i : Nat) (t : Addr), ts[i]? = some t → ∃ x y, xs[i]? = some x ∧ ys[i]? = some y ∧ IsPair h t x y
  up : ts.Pairwise (· < ·)
  lo : ∀ t ∈ ts, B ≤ t ∧ t < h.objs.size
  kp : ∀ b o, h0.get? b = some o → h.get? b = some o
structure ZSt (h0 h : Heap) (S z TI TO i1 i2 l1 l2 : Addr) (xs ys : Array Value) (B : Addr) (ts : List Addr) : Prop where
  e : ZEnd h0 h S xs ys B ts
  z : (IsZip h z TI TO .none ∧ ∃ a b, IsPair h TO a b) ∨ ∃ T f oT, B ≤ T ∧ IsZipHeld h z TI TO T f ∧ h.get? T = some oT
  ti : IsPair h TI (.ref i1) (.ref i2)
  h1 : h.IsListIter i1 l1 ts.length
  h2 : h.IsListIter i2 l2 ts.length
  sz : B ≤ h.objs.size
structure ZNew (h0 : Heap) (S z TI TO i1 i2 : Addr) (B : Addr) : Prop where
  b : ∀ b, b = S ∨ b = z ∨ b = TI ∨ b = TO ∨ b = i1 ∨ b = i2 → h0.objs.size ≤ b ∧ b < B
  Sz : S ≠ z
  ST : S ≠ TI
  SO : S ≠ TO
  S1 : S ≠ i1
  S2 : S ≠ i2
theorem ZEnd.keep {h0 h h' : Heap} {S z TI TO i1 i2 : Addr} {xs ys : Array Value} {B : Addr} {ts : List Addr} (x : ZEnd h0 h S xs ys B ts) (n : ZNew h0 S z TI TO i1 i2 B)
    (k : ∀ c o, c ≠ z → c ≠ TO → c ≠ i1 → c ≠ i2 → h.get? c = some o → h'.get? c = some o) : ZEnd h0 h' S xs ys B ts := by
  have old : ∀ b o, h0.get? b = some o → h'.get? b = some o := fun b o e => by
    have l := Heap.lt_size e
    refine k b o ?_ ?_ ?_ ?_ (x.kp b o e)
    all_goals
      intro q
      subst q
      have := (n.b b (by simp)).1
      exact absurd (Nat.lt_of_lt_of_le l this) (Nat.lt_irrefl _)
  obtain ⟨c, hc⟩ := x.hS
  have pr : ∀ (i : Nat) (t : Addr), ts[i]? = some t → ∃ x y, xs[i]? = some x ∧ ys[i]? = some y ∧ IsPair h' t x y := fun i t e => by
    obtain ⟨a, b, ea, eb, p⟩ := x.pr i t e
    have l := (x.lo t (List.mem_of_getElem? e)).1
    refine ⟨a, b, ea, eb, k t _ ?_ ?_ ?_ ?_ p⟩
    all_goals
      intro q
      subst q
      have := (n.b t (by simp)).2
      exact absurd (Nat.lt_of_lt_of_le this l) (Nat.lt_irrefl _)
  refine ⟨⟨c, k _ _ n.Sz n.SO n.S1 n.S2 hc⟩, pr, x.up, fun t ht => ⟨(x.lo t ht).1, ?_⟩, old⟩
  obtain ⟨i, hi⟩ := List.mem_iff_getElem?.mp ht
  obtain ⟨_, _, _, _, p⟩ := pr i t hi
  exact Heap.lt_size p
theorem zip_drain (hh : A.handled = none) {h0 : Heap} {S z TI TO i1 i2 l1 l2 B : Addr} {xs ys : Array Value} {res : Value} (D : ZipApart z TI TO i1 i2 l1 l2) (hl1 : h0.IsList l1 xs) (hl2 : h0.IsList l2 ys) (hxy : xs.size = ys.size) (hle : xs.size ≤ sizeLine)
    (n : ZNew h0 S z TI TO i1 i2 B) (s0 : Shared) (hend : ∀ h' ts, ts.length = xs.size → ZEnd h0 h' S xs ys B ts → R (.ok (.ret res)) { s0 with heap := h' }) :
    ∀ (m : Nat) (h : Heap) (ts : List Addr), ts.length + m = xs.size → ZSt h0 h S z TI TO i1 i2 l1 l2 xs ys B ts → codeAny (model P w) A (.builtin "list.extend.loop" ⟨[.ref S, .ref z, res], []⟩) R { s0 with heap := h } := by
  intro m
  induction m with
  | zero =>
    intro h ts hm st
    refine codeAny_builtin F.entry_extend_loop ?_
    rw [Around.under_plainId F.plain_extend_loop _]
    show wpAny _ A.in1 (pyNext (.ref z) >>= _) _ _ _
    have hn : xs[ts.length]? = none ∨ ys[ts.length]? = none := .inl (by rw [Array.getElem?_eq_none_iff]; omega)
    have k1 : h.IsList l1 xs := hl1.at fun o e => st.e.kp l1 o e
    have k2 : h.IsList l2 ys := hl2.at fun o e => st.e.kp l2 o e
    have fin : ∀ h', (∀ c o, c ≠ z → c ≠ TO → c ≠ i1 → c ≠ i2 → h.get? c = some o → h'.get? c = some o) → R (.ok (.ret res)) { s0 with heap := h' } := fun h' k => hend h' ts (by omega) (st.e.keep n k)
    rcases st.z with ⟨hz, a, b, hTO⟩ | ⟨T, f, oT, hBT, hz, hT⟩
    · refine wpAny_bind (wpAny_pyNext_zip_end (A := A.in1) (s := { s0 with heap := h }) hh D hz st.ti hTO st.h1 st.h2 k1 k2 hn fun h' k => ?_)
      exact wpAny_pure (fin h' k)
    · refine wpAny_bind (wpAny_pyNext_zip_end_held (A := A.in1) (s := { s0 with heap := h }) hh D hz hT st.ti st.h1 st.h2 k1 k2 hn fun h' k => ?_)
      exact wpAny_pure (fin h' fun c o q1 _ q3 q4 q5 => k c o q1 q3 q4 q5)
  | succ m ih =>
    intro h ts hm st
    refine codeAny_builtin F.entry_extend_loop ?_
    rw [Around.under_plainId F.plain_extend_loop _]
    show wpAny _ A.in1 (pyNext (.ref z) >>= _) _ _ _
    have hlt : ts.length < xs.size := by omega
    have hx : xs[ts.length]? = some xs[ts.length] := Array.getElem?_eq_getElem hlt
    have hy : ys[ts.length]? = some (ys[ts.length]'(by omega)) := Array.getElem?_eq_getElem (by omega)
    have k1 : h.IsList l1 xs := hl1.at fun o e => st.e.kp l1 o e
    have k2 : h.IsList l2 ys := hl2.at fun o e => st.e.kp l2 o e
    have go : ∀ h', (∃ T f oT, B ≤ T ∧ IsZipHeld h' z TI TO T f ∧ h'.get? T = some oT) → h'.IsListIter i1 l1 (ts.length + 1) → h'.IsListIter i2 l2 (ts.length + 1) → IsPair h' h.objs.size xs[ts.length] (ys[ts.length]'(by omega)) → h'.objs.size = h.objs.size + 1 →
        (∀ c o, c ≠ z → c ≠ TO → c ≠ i1 → c ≠ i2 → h.get? c = some o → h'.get? c = some o) →
        wpAny (model P w) A.in1 (do updateSeq S (·.push (.ref h.objs.size)); again (.builtin "list.extend.loop" ⟨[.ref S, .ref z, res], []⟩))
          (fun fin s' => match fin with | .done f => R (.ok f) s' | .again c' => c'.quiet = true ∧ codeAny (model P w) A c' R s') (fun e s' => R (.error e) s') { s0 with heap := h' } := by
      intro h' ⟨T, f, oT, hBT, hz, hT⟩ a1 a2 a3 a4 k
      have e2 := st.e.keep n k
      obtain ⟨c, hc⟩ := e2.hS
      have hsz : ((ts.map Value.ref).toArray).size = ts.length := by simp
      refine wpAny_bind (wpAny_updateSeq (s := { s0 with heap := h' }) hc rfl (wpAny_pure ⟨plainId_quiet F.plain_extend_loop _, ?_⟩) (by show _ ≤ _; simp; omega) (by show _ ≤ _; simp; omega))
      have oth : ∀ b o, b ≠ S → h'.get? b = some o → (h'.update S (Obj.mapSeq (·.push (.ref h.objs.size)))).get? b = some o := fun b o hb e => (Heap.get?_update_other _ _ (Ne.symm hb)).trans e
      have hS3 := Heap.get?_update_self (Obj.mapSeq (·.push (Value.ref h.objs.size))) hc rfl
      have szU : (h'.update S (Obj.mapSeq (·.push (.ref h.objs.size)))).objs.size = h.objs.size + 1 := by
        rw [(Heap.SameBut.update (h := h') ..).1]; exact a4
      have bS : S < h.objs.size := Nat.lt_of_lt_of_le (n.b S (.inl rfl)).2 st.sz
      have new : ∀ b, b = S ∨ b = z ∨ b = TI ∨ b = TO ∨ b = i1 ∨ b = i2 → b < h.objs.size := fun b hb => Nat.lt_of_lt_of_le (n.b b hb).2 st.sz
      have nS : h.objs.size ≠ S := Nat.ne_of_gt bS
      refine ih _ (ts ++ [h.objs.size]) (by rw [List.length_append]; simp; omega) ⟨⟨⟨c + 1, ?_⟩, fun i t e => ?_, ?_, fun t ht => ?_, fun b o e => ?_⟩,   .inr ⟨T, f, oT, hBT, oth _ _ (Ne.symm n.Sz) hz, oth _ _ (fun q => Nat.lt_irrefl _ (Nat.lt_of_lt_of_le (n.b S (.inl rfl)).2 (by rw [← q]; exact hBT))) hT⟩, oth _ _ (Ne.symm n.ST) ?_, ?_, ?_, by rw [szU]; exact Nat.le_succ_of_le st.sz⟩
      · rw [hS3]
        simp [Obj.mapSeq, lstObj]
      · by_cases hi : i < ts.length
        · rw [List.getElem?_append_left hi] at e
          obtain ⟨x, y, q1, q2, q3⟩ := e2.pr i t e
          refine ⟨x, y, q1, q2, oth _ _ (fun z => ?_) q3⟩
          have h1 := (st.e.lo t (List.mem_of_getElem? e)).1
          rw [z] at h1
          exact Nat.lt_irrefl _ (Nat.lt_of_lt_of_le (n.b S (.inl rfl)).2 h1)
        · rw [List.getElem?_append_right (by omega)] at e
          have : i = ts.length := by
            by_cases z : i - ts.length = 0
            · omega
            · rw [List.getElem?_eq_none (by simp; omega)] at e; cases e
          subst this
          simp at e
          subst e
          exact ⟨_, _, hx, hy, oth _ _ nS a3⟩
      · rw [List.pairwise_append]
        refine ⟨e2.up, by simp, fun a ha b hb => ?_⟩
        rw [List.mem_singleton.mp hb]
        exact (st.e.lo a ha).2
      · rw [szU]
        rcases List.mem_append.mp ht with q | q
        · have := st.e.lo t q
          exact ⟨this.1, Nat.lt_succ_of_lt this.2⟩
        · rw [List.mem_singleton.mp q]
          exact ⟨st.sz, Nat.lt_succ_self _⟩
      · refine oth b o (fun q => ?_) (e2.kp b o e)
        have l := Heap.lt_size e
        rw [q] at l
        exact absurd (Nat.lt_of_lt_of_le l (n.b S (.inl rfl)).1) (Nat.lt_irrefl _)
      · refine k _ _ D.TIz D.TITO D.TIi1 D.TIi2 st.ti
      · rw [List.length_append]
        exact a1.at fun o q => oth _ _ (Ne.symm n.S1) q
      · rw [List.length_append]
        exact a2.at fun o q => oth _ _ (Ne.symm n.S2) q
    rcases st.z with ⟨hz, a, b, hTO⟩ | ⟨T, f, oT, hBT, hz, hT⟩
    · refine wpAny_bind (wpAny_pyNext_zip_item (A := A.in1) (s := { s0 with heap := h }) D hz st.ti hTO st.h1 st.h2 k1 k2 hx hy fun h' b1 b2 b3 b4 b5 b6 b7 => ?_)
      exact go h' ⟨h.objs.size, false, _, st.sz, b1, b5⟩ b3 b4 b5 b6 b7
    · refine wpAny_bind (wpAny_pyNext_zip_item_held (A := A.in1) (s := { s0 with heap := h }) D hz hT st.ti st.h1 st.h2 k1 k2 hx hy fun h' b1 b3 b4 b5 b6 b7 => ?_)
      have nT : ∀ b, b = S ∨ b = z ∨ b = TI ∨ b = TO ∨ b = i1 ∨ b = i2 → T ≠ b := fun b hb q => Nat.lt_irrefl _ (Nat.lt_of_lt_of_le (n.b b hb).2 (by rw [← q]; exact hBT))
      exact go h' ⟨T, true, oT, hBT, b1, b7 _ _ (nT _ (by simp)) (nT _ (by simp)) (nT _ (by simp)) hT⟩ b3 b4 b5 b6 fun c o q1 _ q3 q4 q5 => b7 c o q1 q3 q4 q5
theorem call_list_zip {E : Value → Shared → Prop} {s : Shared} {Q : Value → Shared → Prop} (hh : A.handled = none) {h0 : Heap} {z TI TO i1 i2 l1 l2 : Addr} {a b : Value} {xs ys : Array Value} (D : ZipApart z TI TO i1 i2 l1 l2) (hl1 : h0.IsList l1 xs) (hl2 : h0.IsList l2 ys) (hxy : xs.size = ys.size) (hle : xs.size ≤ sizeLine)
    (nw : ∀ b, b = z ∨ b = TI ∨ b = TO ∨ b = i1 ∨ b = i2 → h0.objs.size ≤ b ∧ b < s.heap.objs.size) (hz : IsZip s.heap z TI TO .none) (hTI : IsPair s.heap TI (.ref i1) (.ref i2)) (hTO : IsPair s.heap TO a b)
    (h1 : s.heap.IsListIter i1 l1 0) (h2 : s.heap.IsListIter i2 l2 0) (kp : ∀ b o, h0.get? b = some o → s.heap.get? b = some o) (h0s : h0.objs.size ≤ s.heap.objs.size)
    (hQ : ∀ h' ts, ts.length = xs.size → ZEnd h0 h' s.heap.objs.size xs ys (s.heap.objs.size + 1) ts → Q (.ref s.heap.objs.size) { s with heap := h' }) :
    wpAny (model P w) A (call (.type "list") [.ref z]) Q E s := by
  have ne : ∀ b, b = z ∨ b = TI ∨ b = TO ∨ b = i1 ∨ b = i2 → s.heap.objs.size ≠ b := fun b hb => Nat.ne_of_gt (nw b hb).2
  have n : ZNew h0 s.heap.objs.size z TI TO i1 i2 (s.heap.objs.size + 1) := ⟨fun b hb => by
      rcases hb with q | hb
      · rw [q]; exact ⟨h0s, Nat.lt_succ_self _⟩
      · exact ⟨(nw b hb).1, Nat.lt_succ_of_lt (nw b hb).2⟩, ne _ (by simp), ne _ (by simp), ne _ (by simp), ne _ (by simp), ne _ (by simp)⟩
  refine callType_codes (Q₁ := fun obj s₁ => obj = .ref s.heap.objs.size ∧ s₁ = { s with heap := s.heap.push { cls := .type "list", data := .seq #[] } }) F.called_list (F.typeCall_list_1 _) F.entry_list_init
    (code_list_new _ ⟨rfl, rfl⟩) fun obj s₁ h₁ => ?_
  obtain ⟨rfl, rfl⟩ := h₁
  have hS : (s.heap.push { cls := .type "list", data := .seq #[] }).get? s.heap.objs.size = some { cls := .type "list", data := .seq #[] } := Heap.get?_push_size _ rfl
  refine ⟨⟨_, hS, rfl⟩, F.args_list_init_2 _ _, ?_⟩
  show wpAny _ A.in1.in1 (do let old ← Builtin.List.listItems (.ref s.heap.objs.size); Builtin.List.listUpdate (.ref s.heap.objs.size) (fun _ => #[]); letGo old.toList.reverse; Builtin.List.listExtendWith (.ref s.heap.objs.size) (.ref z) .none) _ _ _
  refine wpAny_bind ?_
  unfold Builtin.List.listItems
  refine wpAny_bind (wpAny_seqItems hS rfl (wpAny_pure ?_))
  show wpAny _ A.in1.in1 (updateSeq s.heap.objs.size (fun _ => #[]) >>= fun _ => letGo (#[] : Array Value).toList.reverse >>= fun _ => Builtin.List.listExtendWith (.ref s.heap.objs.size) (.ref z) .none) _ _ _
  refine wpAny_bind (wpAny_updateSeq hS rfl ?_)
  have hS2 := Heap.get?_update_self (Obj.mapSeq (fun _ => (#[] : Array Value))) hS rfl
  refine wpAny_bind (wpAny_letGo ?_)
  unfold Builtin.List.listExtendWith
  have up : ∀ (h : Heap) (f : Obj → Obj), (∀ b o, s.heap.get? b = some o → h.get? b = some o) → ∀ b o, s.heap.get? b = some o → (h.update s.heap.objs.size f).get? b = some o := fun h f q b o e =>
    (Heap.get?_update_other _ _ (Ne.symm (Nat.ne_of_lt (Heap.lt_size e)))).trans (q b o e)
  have k1 : ∀ b o, s.heap.get? b = some o → (s.heap.push { cls := .type "list", data := .seq #[] }).get? b = some o := fun b o e => Heap.get?_push_of_some _ e
  have k2 := up _ (Obj.mapSeq (fun _ => (#[] : Array Value))) k1
  have hz2 := k2 _ _ hz
  have hT2 : Shared.TypeIs { s with heap := (s.heap.push { cls := .type "list", data := .seq #[] }).update s.heap.objs.size (Obj.mapSeq (fun _ => (#[] : Array Value))) } (.ref z) "zip" := ⟨_, hz2, rfl⟩
  refine wpAny_bind (wpAny_typeOf hT2 ?_)
  have g1 : Builtin.List.listSameRef (.ref s.heap.objs.size) (.ref z) = false := by simp [Builtin.List.listSameRef, n.Sz]
  have g2 : (Value.type "zip" == Value.type "list") = false := by decide
  have g3 : (Value.type "zip" == Value.type "tuple") = false := by decide
  simp only [g1, g2, g3, Bool.or_false, Bool.false_eq_true, if_false]
  refine wpAny_bind (wpAny_pyIter_zip (s := { s with heap := _ }) hz2 ?_)
  refine wpAny_bind (wpAny_holding ?_)
  unfold Builtin.List.listLengthHint
  refine wpAny_bind (wpAny_specialOf hT2 nolen_zip ?_)
  show wpAny _ A.in1.in1 (specialOf (Value.ref z) (Str.ofString "__length_hint__") >>= _) _ _ _
  refine wpAny_bind (wpAny_specialOf hT2 nohint_zip ?_)
  refine wpAny_pure ?_
  show wpAny _ A.in1.in1 (rule "list.extend.makes-room" >>= fun _ => Builtin.List.listTouch (.ref s.heap.objs.size) >>= fun _ =>
    again (.builtin "list.extend.loop" ⟨[.ref s.heap.objs.size, .ref z, .none], []⟩)) _ _ _
  refine wpAny_bind (wpAny_rule ?_)
  refine wpAny_bind ?_
  show wpAny _ A.in1.in1 (updateSeq s.heap.objs.size (·.push .none) >>= fun _ => updateSeq s.heap.objs.size (·.pop)) _ _ _
  refine wpAny_bind (wpAny_updateSeq hS2 rfl ?_)
  have hS3 := Heap.get?_update_self (Obj.mapSeq (·.push Value.none)) hS2 rfl
  refine wpAny_updateSeq (hz := by seq_fits) hS3 rfl ?_
  have hS4 := Heap.get?_update_self (Obj.mapSeq (·.pop)) hS3 rfl
  have k4 := up _ (Obj.mapSeq (·.pop)) (up _ (Obj.mapSeq (·.push Value.none)) k2)
  refine wpAny_pure ⟨plainId_quiet F.plain_extend_loop _, ?_⟩
  refine zip_drain (A := A.in1) hh D hl1 hl2 hxy hle n s (fun h' ts e1 e2 => ⟨rfl, hQ h' ts e1 e2⟩) xs.size _ [] (by simp) ⟨⟨⟨_, hS4⟩, fun i t e => by simp at e, .nil, fun t ht => (by cases ht), fun b o e => k4 b o (kp b o e)⟩, .inl ⟨k4 _ _ hz, a, b, k4 _ _ hTO⟩, k4 _ _ hTI, h1.at fun o q => k4 _ o q, h2.at fun o q => k4 _ o q, ?_⟩
  rw [(Heap.SameBut.update ..).1, (Heap.SameBut.update ..).1, (Heap.SameBut.update ..).1, Heap.size_push]
  exact Nat.le_refl _
theorem vals_refs : ∀ ts : List Addr, Vals (ts.map V.ref) (ts.map Value.ref)
  | [] => .nil
  | _ :: ts => .cons rfl (vals_refs ts)
/-- pairs that are laid, one after another -/
def trk : List Addr → List V → List V → Hp → Hp
  | t :: ts, x :: xs, y :: ys, H => trk ts xs ys (upd H t (.tup [x, y]))
  | _, _, _, H => H
theorem trk_ne : ∀ {ts : List Addr} {xs ys : List V} {H : Hp} {a : Addr}, a ∉ ts → trk ts xs ys H a = H a
  | [], _, _, _, _, _ => rfl
  | _ :: _, [], _, _, _, _ => rfl
  | _ :: _, _ :: _, [], _, _, _ => rfl
  | t :: ts, x :: xs, y :: ys, H, a, h => by
    show trk ts xs ys (upd H t (.tup [x, y])) a = H a
    rw [trk_ne (fun q => h (List.mem_cons_of_mem _ q)), upd_ne (fun q => h (by rw [q]; exact List.mem_cons_self))]
theorem trk_get : ∀ {ts : List Addr} {xs ys : List V} {H : Hp} {i : Nat} {t : Addr} {x y : V}, ts.Nodup → ts[i]? = some t → xs[i]? = some x → ys[i]? = some y → trk ts xs ys H t = some (.tup [x, y])
  | [], _, _, _, _, _, _, _, _, h, _, _ => by simp at h
  | _ :: _, [], _, _, _, _, _, _, _, _, h, _ => by simp at h
  | _ :: _, _ :: _, [], _, _, _, _, _, _, _, _, h => by simp at h
  | t :: ts, x :: xs, y :: ys, H, 0, _, _, _, nd, e1, e2, e3 => by
    simp at e1 e2 e3
    subst e1 e2 e3
    show trk ts xs ys (upd H t (.tup [x, y])) t = _
    rw [trk_ne (List.nodup_cons.mp nd).1, upd_same]
  | t :: ts, x :: xs, y :: ys, H, i + 1, _, _, _, nd, e1, e2, e3 => by
    show trk ts xs ys (upd H t (.tup [x, y])) _ = _
    exact trk_get (List.nodup_cons.mp nd).2 (by simpa using e1) (by simpa using e2) (by simpa using e3)
theorem trk_un {fs : List Addr} {h : Heap} : ∀ {ts : List Addr} {xs ys : List V} {H : Hp}, ts.Nodup → (∀ t ∈ ts, h.objs.size ≤ t ∧ H t = none) → Un fs [] H (trk ts xs ys H) h h
  | [], _, _, _, _, _ => Un.refl
  | _ :: _, [], _, _, _, _ => Un.refl
  | _ :: _, _ :: _, [], _, _, _ => Un.refl
  | t :: ts, x :: xs, y :: ys, H, nd, hf => by
    have n := List.nodup_cons.mp nd
    show Un fs [] H (trk ts xs ys (upd H t (.tup [x, y]))) h h
    refine (Un.laid (fun _ _ q => q) (hf t List.mem_cons_self).1 (hf t List.mem_cons_self).2).trans (trk_un n.2 fun u hu => ⟨(hf u (List.mem_cons_of_mem _ hu)).1, ?_⟩)
    rw [upd_ne (fun q => n.1 (by rw [← q]; exact hu))]
    exact (hf u (List.mem_cons_of_mem _ hu)).2
theorem trk_ok {h' : Heap} : ∀ {ts : List Addr} {xs ys : List V} {H : Hp}, ts.Nodup → HOk P w H h' → (∀ t ∈ ts, H t = none) → (∀ (i : Nat) (t : Addr) (x y : V), ts[i]? = some t → xs[i]? = some x → ys[i]? = some y → ∃ u v, RelV x u ∧ RelV y v ∧ IsPair h' t u v) → HOk P w (trk ts xs ys H) h'
  | [], _, _, _, _, k, _, _ => k
  | _ :: _, [], _, _, _, k, _, _ => k
  | _ :: _, _ :: _, [], _, _, k, _, _ => k
  | t :: ts, x :: xs, y :: ys, H, nd, k, hf, hp => by
    have n := List.nodup_cons.mp nd
    show HOk P w (trk ts xs ys (upd H t (.tup [x, y]))) h'
    obtain ⟨u, v, ru, rv, p⟩ := hp 0 t x y rfl rfl rfl
    refine trk_ok n.2 (k.laidN (fun _ _ q => q) (hf t List.mem_cons_self) ⟨by show 2 ≤ sizeLine; decide, [u, v], .cons ru (.cons rv .nil), ⟨_, p, rfl, _, rfl⟩⟩) (fun u hu => ?_) fun i t' x' y' e1 e2 e3 => hp (i + 1) t' x' y' (by simpa using e1) (by simpa using e2) (by simpa using e3)
    rw [upd_ne (fun q => n.1 (by rw [← q]; exact hu))]
    exact hf u (List.mem_cons_of_mem _ hu)
end
def tListZip (K : PySem.W.Frag) (ta : TA) : TE := fun σ H Q => ta σ H fun vs H1 => ∃ (a b : Addr) (xs ys : List V), vs = [.ref a, .ref b] ∧ SqL K H1 a xs ∧ SqL K H1 b ys ∧ xs.length = ys.length ∧ xs.length ≤ sizeLine ∧
  ∀ ts : List Addr, ts.length = xs.length → ts.Nodup → (∀ t ∈ ts, H1 t = Option.none) → ∀ p, p ∉ ts → H1 p = Option.none → Q (.ref p) (upd (trk ts xs ys H1) p (.lst (ts.map V.ref)))
section
variable {X : Cx} {e e2 : Expr} {ta : TA} {p1 p2 pos1 pos2 : Pos}
theorem pe_listZip (hc : X.calm = true) (hgl : Gl X "list") (hml : X.mg "list" = none) (hgz : Gl X "zip") (hmz : X.mg "zip" = none) (ha : PA X [e, e2] ta)
    (hs : starEach [e, e2] X.env = (false, eval e X.env) :: starEach [e2] X.env := by rfl) (hpl : (backTo pos1 (starEach [e2] X.env)).any (·.1) = false := by rfl)
    (hs2 : starEach [.Call (.Name "zip" p1) [e, e2] [] pos1] X.env = [(false, eval (.Call (.Name "zip" p1) [e, e2] [] pos1) X.env)] := by rfl) :
    PE X (.Call (.Name "list" p2) [.Call (.Name "zip" p1) [e, e2] [] pos1] [] pos2) (tListZip X.K ta) := by
  refine ⟨fun pins s σ H Q I h => ?_⟩
  refine wpAny_Call_Name_kw (ld_blt I hgl hml (u := .type "list") (by first | rfl | decide +kernel) ?_)
  refine PyProof.Rows.callWith_type1 ?_ hs2 rfl
  rw [hs2]
  show wpAny _ _ (spliced [(false, eval (.Call (.Name "zip" p1) [e, e2] [] pos1) X.env)]) _ _ s
  refine Calls.spliced_cons ?_
  refine Call_ (ld_blt I hgz hmz PyProof.Rows.boot_zip (PyProof.Rows.callWith_type1 (thn (ha.run pos1 pins s σ H _ I h) fun us s1 ⟨vs, H1, I1, r1, q1⟩ => ?_) hs hpl))
  obtain ⟨a, b, xs, ys, ex, hqx, hqy, hl, hle, q⟩ := q1
  subst ex
  cases r1 with
  | cons r rr =>
    cases rr with
    | cons r' rr =>
      cases rr
      cases r
      cases r'
      obtain ⟨its, rv, pl1, _⟩ := I1.list hqx
      obtain ⟨its2, rv2, pl2, _⟩ := I1.list hqy
      have l1 := rv.length
      have l2 := rv2.length
      refine call_zip_2 pl1.isList pl2.isList fun h' hz hTI hTO h1 h2 hsz hk => ?_
      refine Calls.spliced_nil ?_
      refine call_list_zip (s := { s1 with heap := h' }) (h0 := s1.heap) (I1.ok.hd hc) (PySem.W.ktu_apart s1.heap.objs.size a b pl1.lt pl2.lt) pl1.isList pl2.isList (by simp; omega) (by simp; omega) (fun c hc => ?_) hz hTI hTO h1 h2 hk (by show _ ≤ h'.objs.size; omega) fun h2 ts e1 ze => ?_
      · show _ ∧ c < h'.objs.size
        have : ∀ k, k < 5 → s1.heap.objs.size ≤ s1.heap.objs.size + k ∧ s1.heap.objs.size + k < h'.objs.size := fun k hk => ⟨Nat.le_add_right _ _, by omega⟩
        rcases hc with z | z | z | z | z
        · rw [z]; exact this 4 (by omega)
        · rw [z]; exact this 2 (by omega)
        · rw [z]; exact this 3 (by omega)
        · rw [z]; exact this 0 (by omega)
        · rw [z]; exact this 1 (by omega)
      · have hS : s1.heap.objs.size ≤ h'.objs.size := by omega
        have nd : ts.Nodup := ze.up.imp fun h => Nat.ne_of_lt h
        have lo : ∀ t ∈ ts, s1.heap.objs.size ≤ t ∧ H1 t = none := fun t ht => by
          have := (ze.lo t ht).1
          have this : h'.objs.size + 1 ≤ t := this
          exact ⟨by omega, I1.hok.fresh (by omega)⟩
        have nS : h'.objs.size ∉ ts := fun z => by
          have := (ze.lo _ z).1
          exact absurd this (Nat.not_succ_le_self _)
        obtain ⟨c, hc2⟩ := ze.hS
        have hlen : ts.length = xs.length := by rw [e1]; simp; omega
        have hN : H1 h'.objs.size = none := I1.hok.fresh hS
        refine ⟨.ref h'.objs.size, upd (trk ts xs ys H1) h'.objs.size (.lst (ts.map V.ref)), ?_, rfl, q ts hlen nd (fun t ht => (lo t ht).2) _ nS hN⟩
        have u1 : Un X.fs [] H1 (trk ts xs ys H1) s1.heap s1.heap := trk_un nd lo
        have ok1 : HOk X.prog X.w (trk ts xs ys H1) h2 := trk_ok nd (I1.hok.kept ze.kp) (fun t ht => (lo t ht).2) fun i t x y e1 e2 e3 => by
          obtain ⟨u, v, eu, ev, p⟩ := ze.pr i t e1
          obtain ⟨u', hu, ru⟩ := rv.get e2
          obtain ⟨v', hv, rv'⟩ := rv2.get e3
          simp at eu ev
          rw [hu] at eu; cases eu
          rw [hv] at ev; cases ev
          exact ⟨_, _, ru, rv', p⟩
        have hN2 : trk ts xs ys H1 h'.objs.size = none := by rw [trk_ne nS]; exact hN
        have ok2 : HOk X.prog X.w (upd (trk ts xs ys H1) h'.objs.size (.lst (ts.map V.ref))) h2 := ok1.laidN (fun _ _ q => q) hN2 ⟨by rw [List.length_map]; omega, ts.map Value.ref, c, ?_, hc2⟩
        · exact I1.un (t' := s1.toks) (u1.trans (Un.laid ze.kp hS hN2)) ok2
        · exact vals_refs ts
end
/-! ### an enumerate object in a name -/
def EnO (e it : Addr) : HO := .ext fun h => ∃ old, IsEnum h e it ((0 : Nat) : Int) old
def LiO (a it : Addr) : HO := .ext fun h => h.IsListIter it a 0
def tEnumO (K : PySem.W.Frag) (n : Nat) (ta : TA) : TE := fun σ H Q => ta σ H fun vs H1 => ∃ (a : Addr) (xs : List V), vs = [.ref a] ∧ SqL K H1 a xs ∧
  ∀ e it, e ≠ it → H1 e = Option.none → H1 it = Option.none → n ≤ e → n ≤ it → Q (.ref e) (upd (upd H1 it (LiO a it)) e (EnO e it))
def iEnv (K : PySem.W.Frag) (n k : Nat) : TI := fun σ H R => ∃ (e it a : Addr), σ[k]? = some (some (.ref e)) ∧ H e = some (EnO e it) ∧ H it = some (LiO a it) ∧ e ≠ it ∧ n ≤ e ∧ n ≤ it ∧ R (Ite K a) (ItX.dropH (ItX.dropH H e) it)
section
variable {X : Cx} {e : Expr} {ta : TA} {p pos tpos : Pos} {elts : List Expr} {kk k : Nat} {x : Str}
theorem pe_enumO (hg : Gl X "enumerate") (hm : X.mg "enumerate" = none) (ha : PA X [e] ta) (hs : starEach [e] X.env = [(false, eval e X.env)] := by rfl) :
    PE X (.Call (.Name "enumerate" p) [e] [] pos) (tEnumO X.K X.s_0.heap.objs.size ta) := by
  refine ⟨fun pins s σ H Q I h => ?_⟩
  refine wpAny_Call_Name_kw (ld_blt I hg hm boot_enumerate (PyProof.Rows.callWith_type1 (thn (ha.run pos pins s σ H _ I h) fun us s1 ⟨vs, H1, I1, r1, q1⟩ => ?_) hs rfl))
  obtain ⟨a, xs, ex, hq, q⟩ := q1
  subst ex
  cases r1 with
  | cons r rr =>
    cases rr
    cases r
    obtain ⟨its, rv, p', hz⟩ := I1.list hq
    refine call_enumerate_list p'.isList fun h' he hit hsz hk => ?_
    have n0 : H1 s1.heap.objs.size = none := I1.hok.fresh (Nat.le_refl _)
    have n1 : H1 (s1.heap.objs.size + 1) = none := I1.hok.fresh (Nat.le_succ _)
    have ne : s1.heap.objs.size + 1 ≠ s1.heap.objs.size := Nat.succ_ne_self _
    have n1' : upd H1 s1.heap.objs.size (LiO a s1.heap.objs.size) (s1.heap.objs.size + 1) = none := by rw [upd_ne ne]; exact n1
    have sz : X.s_0.heap.objs.size ≤ s1.heap.objs.size := I1.sz
    refine ⟨.ref (s1.heap.objs.size + 1), _, I1.un (t' := s1.toks) ((Un.laid (o := LiO a s1.heap.objs.size) (fun _ _ q => q) (Nat.le_refl _) n0).trans (Un.laid (o := EnO (s1.heap.objs.size + 1) s1.heap.objs.size) hk (Nat.le_succ _) n1')) ?_, rfl, q _ _ ne n1 n0 (Nat.le_trans sz (Nat.le_succ _)) sz⟩
    obtain ⟨o1, ho1, hc1, hd1⟩ := id hit
    refine ((I1.hok.kept hk).laidN (o := LiO a s1.heap.objs.size) (fun _ _ q => q) n0 ⟨hit, ⟨o1, ho1⟩, fun h1 h2 ⟨o, z, r⟩ k => ⟨o, k _ z, r⟩⟩).laidN (o := EnO (s1.heap.objs.size + 1) s1.heap.objs.size) (fun _ _ q => q) n1' ⟨⟨_, he⟩, ⟨_, he⟩, fun h1 h2 ⟨old, z⟩ k => ⟨old, k _ z⟩⟩
theorem pi_env (hN : X.N[k]? = some x) (hv : Vis X.env.scope x) (hd : (x == ("__debug__" : Str)) = false := by decide) (hcd : (x == ("__classdict__" : Str)) = false := by decide) :
    PI X (.Tuple elts kk tpos) (.Name x p) (iEnv X.K X.s_0.heap.objs.size k) := by
  refine ⟨fun pins s σ H R I h => ?_⟩
  obtain ⟨e, it, a, hs, he, hi, hne, ne1, ne2, q⟩ := h
  refine thn ((pe_var (pos := p) (i := k) hN hv hd hcd).run pins s σ H (fun v H1 => v = .ref e ∧ H1 = H) I ⟨.ref e, hs, rfl, rfl⟩) fun u s1 ⟨v, H1, I1, r1, ev, eH⟩ => ?_
  subst ev
  rw [eH] at I1
  cases r1
  obtain ⟨⟨old, ge⟩, _, _⟩ := I1.hok e _ he
  obtain ⟨gi, _, _⟩ := I1.hok it _ hi
  have st : (∃ old, IsEnum s1.heap e it ((0 : Nat) : Int) old) ∧ s1.heap.IsListIter it a 0 ∧ e ≠ it := ⟨⟨old, ge⟩, gi, hne⟩
  have hi' : ItX.dropH H e it = some (LiO a it) := by rw [ItX.dropH_ne (Ne.symm hne)]; exact hi
  have I2 := ItX.inv_drop I1 (show H e = some (.ext _) from he)
  have I3 := ItX.inv_drop I2 (show ItX.dropH H e it = some (.ext _) from hi')
  refine (turn_enum (P := X.prog) (w := X.w) (K := X.K) (elts := elts) (kk := kk) (tpos := tpos) a e it).self X.A 0 s1 _ _ st ?_
  refine ⟨e, [e, it], _, _, _, rfl, I3, turn_enum a e it, st, fun b hb => ?_, q⟩
  have e' : b = e ∨ b = it := by simpa using hb
  rcases e' with z | z
  · rw [z]
    obtain ⟨_, f⟩ := ItX.inv_fp I1 he ne1
    refine ⟨?_, f⟩
    rw [ItX.dropH_ne hne]
    exact ItX.dropH_same
  · rw [z]
    exact ItX.inv_fp I2 hi' ne2
end
end K30X
namespace K30X
open PySem PySem.Spec PyProof.Rows L2
/-! ### x not in a list, compared within one model; None and dicts -/
section
open AutoSeq1 (wpAny_loadPart')
open MeetsSeq MeetsSeq2 MeetsSeq3 SeqRoads2 SeqAt
variable {prog : Program} {w : World}
theorem contains_loopP (l : Addr) (items : Array Value) (n : Nat) (dd : Option Addr) (sl : Array (Option Value)) (x : Value) (e : Nat → Bool) (k : Nat) :
    ∀ i : Nat, items.size - i = k → MeetsIn prog w (Builtin.«list.__contains__.loop» ⟨[.ref l, x, rawInt i], []⟩)
      (fun A R s => s.heap.get? l = some { cls := .type "list", dict := dd, data := .seq items n, slots := sl } ∧ (∀ j (h : j < items.size), EqP prog w A.in1 s items[j] x (e j)) ∧ R (.ok (.ret (.bool (((List.range items.size).drop i).any e)))) s) := by
  induction k with
  | zero =>
    intro i hk A R s h
    obtain ⟨hp, g, d, tk, os⟩ := s; obtain ⟨hl, he, h⟩ := h
    wp_walk using wpAny_loadPart' hl
    have hi : items[((i : Nat) : Int).toNat]? = none := by simp; omega
    have hd : (List.range items.size).drop i = [] := by simp; omega
    rw [hd] at h
    rw [hi]
    wp_walk
    exact h
  | succ k ih =>
    intro i hk A R s h
    obtain ⟨hp, g, d, tk, os⟩ := s; obtain ⟨hl, he, h⟩ := h
    wp_walk using wpAny_loadPart' hl
    have hlt : i < items.size := by omega
    have hi : items[((i : Nat) : Int).toNat]? = some items[i] := by simp [hlt]
    have hd : (List.range items.size).drop i = i :: (List.range items.size).drop (i + 1) := by simp [List.drop_eq_getElem_cons, hlt]
    rw [hd, List.any_cons] at h
    rw [hi]
    refine wpAny_bind (he i hlt _ _ ?_)
    cases hb : e i with
    | true =>
      rw [hb] at h
      wp_walk
      exact h
    | false =>
      rw [hb] at h
      have hc : ((i : Int) + 1) = ((i + 1 : Nat) : Int) := by push_cast; rfl
      wp_walk
      rw [hc]
      exact ⟨plainId_quiet plain_contains_loop _, codeAny_builtin entry_contains_loop (by
        rw [Around.under_plainId plain_contains_loop _]
        exact ih (i + 1) (by omega) A R _ ⟨hl, he, by simpa using h⟩)⟩
theorem list_containsP (l : Addr) (items : Array Value) (n : Nat) (dd : Option Addr) (sl : Array (Option Value)) (x : Value) (e : Nat → Bool) :
    MeetsIn prog w (Builtin.«list.__contains__» ⟨[.ref l, x], []⟩)
      (fun A R s => s.heap.get? l = some { cls := .type "list", dict := dd, data := .seq items n, slots := sl } ∧ (∀ j (h : j < items.size), EqP prog w A.in1 s items[j] x (e j)) ∧ R (.ok (.ret (.bool ((List.range items.size).any e)))) s) := by
  intro A R s h
  obtain ⟨hp, g, d, tk, os⟩ := s; obtain ⟨hl, he, h⟩ := h
  wp_walk using wpAny_loadPart' hl
  exact ⟨plainId_quiet plain_contains_loop _, codeAny_builtin entry_contains_loop (by
    rw [Around.under_plainId plain_contains_loop _]
    exact contains_loopP l items n dd sl x e _ 0 rfl A R _ ⟨hl, he, by simpa using h⟩)⟩
theorem notIn_listP {A : Around} {s : Shared} {E : Value → Shared → Prop} {l : Addr} {items : Array Value} {x : Value} {Q : Value → Shared → Prop} (e : Nat → Bool) (hl : s.heap.IsList l items) (he : ∀ j (h : j < items.size), EqP prog w A.in1 s items[j] x (e j))
    (h : Q (.bool (!(List.range items.size).any e)) s) : wpAny (model prog w) A (compareOp .NotIn x (.ref l)) Q E s := by
  obtain ⟨⟨cls, dd, data, sl⟩, ho, hc, n, hd⟩ := id hl
  simp only at hc hd
  subst hc hd
  have hT : s.TypeIs (.ref l) "list" := ⟨_, ho, rfl⟩
  show wpAny _ A (do return .bool (!(← contains (.ref l) x))) Q E s
  refine wpAny_bind (wpAny_contains_slot hT F.slot_list_contains (wpAny_mono (Q := fun v s' => v = .bool ((List.range items.size).any e) ∧ s' = s) (E := E) (call_meetsIn F.slot_list_contains hT F.entry_list_contains (F.args_list_contains_2 _ _) (list_containsP l items n dd sl x e) ⟨ho, he, rfl, rfl⟩) (fun v s' hv => ?_) fun _ _ e => e))
  obtain ⟨rfl, rfl⟩ := hv
  exact wpAny_truthy_bool (wpAny_pure h)
end
section
open SeqAt
variable {prog : Program} {w : World} {K : Type} [DecidableEq K] {knd : KeyKind prog w K} {A : Around} {E : Value → Shared → Prop} {s : Shared}
theorem dict_declines {a : Addr} {ka : List (K × Value)} (da : s.heap.DictOf knd a ka) {Q : Value → Shared → Prop} (hq : Q .notImplemented s) : wpAny (model prog w) A (call (.builtin "dict.__eq__") [.ref a, .none]) Q E s := by
  refine wpAny_call_entry PySem.F.slot_dict_eq da.typeIs PySem.F.entry_dict_eq ?_ (PySem.F.args_dict_eq_2 _ _)
  show wpAny _ _ (Builtin.Dict.dictSlotArgs "__eq__" ⟨[.ref a, .none], []⟩ >>= _) _ _ s
  refine wpAny_bind ?_
  unfold Builtin.Dict.dictSlotArgs
  refine wpAny_bind (wpAny_notOrdered_dict da.typeIs ?_)
  show wpAny _ _ (pure (Value.ref a, Value.none)) _ _ s
  refine wpAny_pure ?_
  refine wpAny_bind (wpAny_isInstance (T := "NoneType") (b := false) rfl F.sub_NoneType_dict ?_)
  simp only [Bool.not_false, if_true]
  exact wpAny_bind (wpAny_rule (wpAny_pure ⟨_, rfl, hq⟩))
theorem eqP_dict_none {a : Addr} {ka : List (K × Value)} (da : s.heap.DictOf knd a ka) (hu : A.units < cLine) : EqP prog w A s (.ref a) .none false := fun E Q h => by
  unfold eqBool
  refine wpAny_holding ?_
  refine wpAny_ite_split (fun hab => absurd (eq_of_beq hab) nofun) (fun _ => ?_)
  refine wpAny_bind (SeqAt.rc_eq_decline_or (k := false) da.typeIs rfl (by decide) F.sub_NoneType_dict F.slot_dict_eq F.slot_NoneType_eq_refl (fun _ hq => dict_declines da hq)
    (fun _ hq => call_gives F.slot_NoneType_eq_refl rfl F.entry_NoneType_eq (F.args_NoneType_eq_2 _ _) (SeqAt.NoneType___eq___none_ref_0 a) hq)
    (fun _ hq => wpAny_of_eq (rfl : isSame (.ref a) .none = pure false) hq) (.inr hu) (wpAny_truthy_bool h))
theorem eqP_none_dict {a : Addr} {ka : List (K × Value)} (da : s.heap.DictOf knd a ka) (hu : A.units < cLine) : EqP prog w A s .none (.ref a) false := fun E Q h => by
  unfold eqBool
  refine wpAny_holding ?_
  refine wpAny_ite_split (fun hab => absurd (eq_of_beq hab) nofun) (fun _ => ?_)
  refine wpAny_bind (SeqAt.rc_eq_decline_or (k := false) rfl da.typeIs (by decide) F.sub_dict_NoneType F.slot_NoneType_eq F.slot_dict_eq_refl
    (fun _ hq => call_gives F.slot_NoneType_eq rfl F.entry_NoneType_eq (F.args_NoneType_eq_2 _ _) (SeqAt.NoneType___eq___none_ref_0 a) hq)
    (fun _ hq => dict_declines da hq)
    (fun _ hq => wpAny_of_eq (rfl : isSame .none (.ref a) = pure false) hq) (.inr hu) (wpAny_truthy_bool h))
end
end K30X
namespace K30
open PySem PySem.Spec PyProof.Rows L2
/-! ## W1: layouts, blocks -/
theorem Lay.Ok.bnd {L : Lay} (O : L.Ok) : L.pay ≤ 31 ∧ L.lim ≤ 434 ∧ L.lastId ≤ 465 ∧ L.fan ≤ 128 ∧ L.rb ≤ 60 ∧ L.db ≤ 700 := by
  have h1 := O.s16
  have h2 := O.b32
  have hp : L.pay ≤ 31 := by unfold Lay.pay; omega
  have hl : L.lim ≤ 14 * 31 := Nat.mul_le_mul (by omega) hp
  have hi : L.lastId ≤ 465 := by unfold Lay.lastId; omega
  have hd : L.segs * L.blks ≤ 16 * 32 := Nat.mul_le_mul h1 h2
  have hf : L.fan ≤ 128 := by unfold Lay.fan; rcases O.z with e | e | e <;> rw [e] <;> omega
  have hr : L.rb ≤ 60 := by
    unfold Lay.rb Lay.nums
    rcases O.z with e | e | e <;> rw [e] <;> omega
  exact ⟨hp, hl, hi, hf, hr, by unfold Lay.db; omega⟩
theorem ndiv (a b : Nat) : (a : Int) / (b : Int) = ((a / b : Nat) : Int) := rfl
theorem sz_ok {n : Nat} (h : n ≤ 100000) : n ≤ sizeLine := Nat.le_trans h (by decide)
theorem sz_lt {n : Nat} (h : n < 100000) : n < sizeLine := Nat.lt_of_lt_of_le h (by decide)
section
variable {P : Program} {w : World} {K : PySem.W.Frag} {mg : Str → Option Value} {base : Heap}
def sp_parts_of (K : PySem.W.Frag) : Sp := fun vs H Q _ => ∃ (n s : Nat), vs = [.int (n : Int), .int (s : Int)] ∧ 0 < s ∧ s ≤ 1000 ∧ Q (.int (((n + s - 1) / s : Nat) : Int)) H
theorem sc_parts_of : FnScope ["number", "size"] ["number", "size"] (defScope s_parts_of) := ⟨rfl, rfl, rfl, by decide +kernel, rfl, by decide +kernel, by decide +kernel⟩
theorem cal_parts_of (T : Txt K mg) (F : FD K mg "parts_of" s_parts_of) : C8.Cal P w K mg base 1 "parts_of" (sp_parts_of K) [] := by
  obtain ⟨f, fd, F, hm⟩ := F
  refine ⟨f, fd, _, _, F.ok sc_parts_of (fun vs H Q E h => ?_) (fun cdv A outer s H vs Q E hr h => ?_), hm, F.kp, F.bindsN (fun _ _ _ _ _ _ us hl => match us, hl with | [_, _], _ => rfl), .nil⟩
  · obtain ⟨_, _, rfl, _⟩ := h
    rfl
  · obtain ⟨n, z, rfl, h0, h1, k⟩ := h
    refine ⟨_, PSs.nox (pss_one (ps_ret (pe_op op_fdiv (pe_op op_sub (pe_op op_add (pv 0) (pv 1)) pe_int) (pv 1)))), ?_⟩
    refine ⟨_, rfl, _, rfl, _, _, rfl, rfl, _, _, rfl, rfl, _, rfl, _, _, rfl, rfl, ⟨by omega, by omega⟩, ?_⟩
    have e : ((n : Int) + (z : Int) - 1) / (z : Int) = (((n + z - 1) / z : Nat) : Int) := by
      rw [show (n : Int) + (z : Int) - 1 = ((n + z - 1 : Nat) : Int) by omega, ndiv]
    show Q (.int (((n : Int) + (z : Int) - 1) / (z : Int))) H
    rw [e]
    exact k
def sp_address_at (K : PySem.W.Frag) : Sp := fun vs H Q _ => ∃ (l : Addr) (g p : Nat) (L : Lay), vs = [.ref l, .int (g : Int), .int (p : Int)] ∧ LayAt K H l L ∧ L.Ok ∧ Q (.int (L.ad g p : Int)) H
theorem sc_address_at : FnScope ["layout", "segment", "place"] ["layout", "segment", "place"] (defScope s_address_at) := ⟨rfl, rfl, rfl, by decide +kernel, rfl, by decide +kernel, by decide +kernel⟩
theorem cal_address_at (T : Txt K mg) (F : FD K mg "address_at" s_address_at) : C8.Cal P w K mg base 1 "address_at" (sp_address_at K) [] := by
  obtain ⟨f, fd, F, hm⟩ := F
  refine ⟨f, fd, _, _, F.ok sc_address_at (fun vs H Q E h => ?_) (fun cdv A outer s H vs Q E hr h => ?_), hm, F.kp, F.bindsN (fun _ _ _ _ _ _ us hl => match us, hl with | [_, _, _], _ => rfl), .nil⟩
  · obtain ⟨_, _, _, _, rfl, _⟩ := h
    rfl
  · obtain ⟨l, g, p, L, rfl, ⟨dx, hl⟩, O, k⟩ := h
    have hb := O.b32
    refine ⟨_, PSs.nox (pss_one (ps_ret (pe_op op_add (pe_op op_add (pe_op op_mul pe_int (pe_fld (pv 0) rfl)) (pe_op op_mul (pv 1) (pe_fld (pv 0) rfl))) (pv 2)))), ?_⟩
    refine ⟨_, rfl, l, _, dx, _, _, rfl, hl, T.cL, T.nL_region_blocks, rfl, _, _, rfl, rfl, .inl ⟨by decide, by decide⟩, ?_⟩
    refine ⟨_, rfl, _, rfl, l, _, dx, _, _, rfl, hl, T.cL, T.nL_segment_blocks, rfl, _, _, rfl, rfl, .inr ⟨by omega, by omega⟩, ?_⟩
    refine ⟨_, _, rfl, rfl, _, rfl, _, _, rfl, rfl, ?_⟩
    exact k
def sp_segment_of (K : PySem.W.Frag) : Sp := fun vs H Q _ => ∃ (l : Addr) (a : Nat) (L : Lay), vs = [.ref l, .int (a : Int)] ∧ LayAt K H l L ∧ L.Ok ∧ Q (match segOf L a with | some g => .int (g : Int) | none => .non) H
theorem sc_segment_of : FnScope ["layout", "address", "first"] ["layout", "address"] (defScope s_segment_of) := ⟨rfl, rfl, rfl, by decide +kernel, rfl, by decide +kernel, by decide +kernel⟩
theorem cal_segment_of (T : Txt K mg) (F : FD K mg "segment_of" s_segment_of) : C8.Cal P w K mg base 1 "segment_of" (sp_segment_of K) [] := by
  obtain ⟨f, fd, F, hm⟩ := F
  refine ⟨f, fd, _, _, F.ok sc_segment_of (fun vs H Q E h => ?_) (fun cdv A outer s H vs Q E hr h => ?_), hm, F.kp, F.bindsN (fun _ _ _ _ _ _ us hl => match us, hl with | [_, _], _ => rfl), .nil⟩
  · obtain ⟨_, _, _, rfl, _⟩ := h
    rfl
  · obtain ⟨l, a, L, rfl, ⟨dx, hl⟩, O, k⟩ := h
    have hb := O.b32
    have hb2 := O.b16
    refine ⟨_, PSs.nox (pss_cons (ps_set (i := 2) sc_segment_of.nd rfl (Or.inl rfl) (pe_op op_mul pe_int (pe_fld (pv 0) rfl)))
      (pss_cons (ps_if (PW.pt (pw_or (pt_cmpR op_lt (pv 1) (pv 2) (nomark _)) (pw_or1 (pt_cmpR op_ge (pv 1) (pe_fld (pv 0) rfl) (nomark _))))) (pss_one (ps_ret pe_non)) pss_nil)
      (pss_one (ps_ret (pe_op op_fdiv (pe_op op_sub (pv 1) (pv 2)) (pe_fld (pv 0) rfl)))))), ?_⟩
    refine ⟨_, rfl, l, _, dx, _, _, rfl, hl, T.cL, T.nL_region_blocks, rfl, _, _, rfl, rfl, .inl ⟨by decide, by decide⟩, ?_⟩
    refine ⟨_, rfl, _, rfl, _, _, rfl, rfl, _, rfl, ?_⟩
    by_cases c1 : (a : Int) < 2 * (L.rb : Int)
    · refine dT c1 ?_
      unfold segOf at k
      rw [if_pos (.inl (by omega))] at k
      exact k
    · refine dF c1 ?_
      refine ⟨_, rfl, _, rfl, l, _, dx, _, _, rfl, hl, T.cL, T.nL_device_blocks, rfl, _, _, rfl, rfl, _, rfl, ?_⟩
      by_cases c2 : (L.db : Int) ≤ (a : Int)
      · refine dT c2 ?_
        unfold segOf at k
        rw [if_pos (.inr (by omega))] at k
        exact k
      · refine dF c2 ?_
        refine ⟨_, rfl, _, rfl, _, _, rfl, rfl, _, rfl, l, _, dx, _, _, rfl, hl, T.cL, T.nL_segment_blocks, rfl, _, _, rfl, rfl, ⟨by omega, by omega⟩, ?_⟩
        unfold segOf at k
        rw [if_neg (by omega)] at k
        have e : ((a : Int) - 2 * (L.rb : Int)) / (L.blks : Int) = (((a - 2 * L.rb) / L.blks : Nat) : Int) := by
          rw [show (a : Int) - 2 * (L.rb : Int) = ((a - 2 * L.rb : Nat) : Int) by omega, ndiv]
        show Q (.int (((a : Int) - 2 * (L.rb : Int)) / (L.blks : Int))) H
        rw [e]
        exact k
def sp_region_start (K : PySem.W.Frag) : Sp := fun vs H Q _ => ∃ (l : Addr) (r : Nat) (L : Lay), vs = [.ref l, .int (r : Int)] ∧ r < 2 ∧ LayAt K H l L ∧ Q (.int ((r * L.rb : Nat) : Int)) H
theorem sc_region_start : FnScope ["layout", "region"] ["layout", "region"] (defScope s_region_start) := ⟨rfl, rfl, rfl, by decide +kernel, rfl, by decide +kernel, by decide +kernel⟩
theorem cal_region_start (T : Txt K mg) (F : FD K mg "region_start" s_region_start) : C8.Cal P w K mg base 1 "region_start" (sp_region_start K) [] := by
  obtain ⟨f, fd, F, hm⟩ := F
  refine ⟨f, fd, _, _, F.ok sc_region_start (fun vs H Q E h => ?_) (fun cdv A outer s H vs Q E hr h => ?_), hm, F.kp, F.bindsN (fun _ _ _ _ _ _ us hl => match us, hl with | [_, _], _ => rfl), .nil⟩
  · obtain ⟨_, _, _, rfl, _⟩ := h
    rfl
  · obtain ⟨l, r, L, rfl, hr, ⟨dx, hl⟩, k⟩ := h
    refine ⟨_, PSs.nox (pss_one (ps_ret (pe_op op_mul (pv 1) (pe_fld (pv 0) rfl)))), ?_⟩
    refine ⟨_, rfl, _, rfl, l, _, dx, _, _, rfl, hl, T.cL, T.nL_region_blocks, rfl, _, _, rfl, rfl, .inl ⟨by omega, by omega⟩, ?_⟩
    show Q (.int ((r : Int) * (L.rb : Int))) H
    rw [← Int.natCast_mul]
    exact k
def sp_empty_table (K : PySem.W.Frag) : Sp := fun vs H Q _ => ∃ (l : Addr) (L : Lay), vs = [.ref l] ∧ LayAt K H l L ∧ L.Ok ∧ ∀ p, H p = Option.none → ∀ H', Same H H' → H' p = some (.lst (nats (List.replicate (L.lastId + 1) 0))) → Q (.ref p) H'
theorem sc_empty_table : FnScope ["layout"] ["layout"] (defScope s_empty_table) := ⟨rfl, rfl, rfl, by decide +kernel, rfl, by decide +kernel, by decide +kernel⟩
theorem cal_empty_table (T : Txt K mg) (F : FD K mg "empty_table" s_empty_table) : C8.Cal P w K mg base 1 "empty_table" (sp_empty_table K) [] := by
  obtain ⟨f, fd, F, hm⟩ := F
  refine ⟨f, fd, _, _, F.ok sc_empty_table (fun vs H Q E h => ?_) (fun cdv A outer s H vs Q E hr h => ?_), hm, F.kp, F.bindsN (fun _ _ _ _ _ _ us hl => match us, hl with | [_], _ => rfl), .nil⟩
  · obtain ⟨_, _, rfl, _⟩ := h
    rfl
  · obtain ⟨l, L, rfl, ⟨dx, hl⟩, O, k⟩ := h
    have hb := O.bnd
    refine ⟨_, PSs.nox (pss_one (ps_ret (pe_op op_rep (pe_lst (pa_cons pe_int pa_nil)) (pe_op op_add (pe_fld (pv 0) rfl) pe_int)))), ?_⟩
    refine ⟨by show 1 ≤ sizeLine; decide, fun p hp => ?_⟩
    have np : l ≠ p := ne_of_none hl hp
    refine ⟨_, rfl, l, _, dx, _, _, rfl, (upd_ne np).trans hl, T.cL, T.nL_last_id, rfl, _, _, rfl, rfl, ?_⟩
    refine ⟨p, _, _, rfl, rfl, upd_same, by omega, by omega, sz_ok (by simp; omega), fun p' hp' => ?_⟩
    have npp : p' ≠ p := fun e => by rw [e, upd_same] at hp'; cases hp'
    have hp0 : H p' = none := by rw [upd_ne npp] at hp'; exact hp'
    refine k p' hp0 _ (fun b o e => ?_) ?_
    · rw [upd_ne (ne_of_none e hp0), upd_ne (ne_of_none e hp)]; exact e
    · rw [upd_same]
      congr 2
      have e : ((L.lastId : Int) + 1).toNat = L.lastId + 1 := by omega
      rw [e]
      simp [nats]
end

end K30

namespace K30
open PySem PySem.Spec PyProof.Rows L2
/-! ## W2: blocks, tables -/
open K30X
theorem inV_int {k : Int} {ks : List Int} : inV (.int k) (ks.map V.int) = decide (k ∈ ks) := by
  unfold inV
  induction ks with
  | nil => rfl
  | cons a r ih =>
    rw [List.map_cons, List.any_cons, ih]
    show (a == k || decide (k ∈ r)) = decide (k ∈ a :: r)
    by_cases e : a = k
    · subst e; simp
    · have : (a == k) = false := beq_eq_false_iff_ne.mpr e
      rw [this, Bool.false_or]
      have h2 : ¬ k = a := fun q => e q.symm
      simp [h2]
theorem inV_nats {k : Nat} {ks : List Nat} : inV (.int (k : Int)) (nats ks) = decide (k ∈ ks) := by
  have : nats ks = (ks.map fun (n : Nat) => (n : Int)).map V.int := by simp [nats]
  rw [this, inV_int]
  congr 1
  rw [List.mem_map]
  exact propext ⟨fun ⟨a, h, e⟩ => by have : a = k := by omega
                                     exact this ▸ h, fun h => ⟨k, h, rfl⟩⟩
theorem flat_nats {ks : List Nat} : (nats ks).all flatV = true := by
  rw [List.all_eq_true]
  intro x hx
  obtain ⟨n, _, e⟩ := List.mem_map.mp hx
  rw [← e]; rfl
section
variable {P : Program} {w : World} {K : PySem.W.Frag} {mg : Str → Option Value} {base : Heap}
def isPayO : Option Blk → Bool
  | none => false
  | some b => decide (b.kind = 3 ∨ b.kind = 4)
def sp_is_payload (K : PySem.W.Frag) : Sp := fun vs H Q _ => ∃ (o : Option Blk) (v : V), vs = [v] ∧ OBR H o v ∧ ∀ H', Same H H' → Q (.bl (isPayO o)) H'
theorem sc_is_payload : FnScope ["block"] ["block"] (defScope s_is_payload) := ⟨rfl, rfl, rfl, by decide +kernel, rfl, by decide +kernel, by decide +kernel⟩
theorem cal_is_payload (T : Txt K mg) (F : FD K mg "is_payload" s_is_payload) : C8.Cal P w K mg base 1 "is_payload" (sp_is_payload K) [] := by
  obtain ⟨f, fd, F, hm⟩ := F
  refine ⟨f, fd, _, _, F.ok sc_is_payload (fun vs H Q E h => ?_) (fun cdv A outer s H vs Q E hr h => ?_), hm, F.kp, F.bindsN (fun _ _ _ _ _ _ us hl => match us, hl with | [_], _ => rfl), .nil⟩
  · obtain ⟨_, _, rfl, _⟩ := h
    rfl
  · obtain ⟨o, v, rfl, ho, k⟩ := h
    refine ⟨_, PSs.nox (pss_one (ps_ret (pe_and (pe_cmpR op_notN (pv 0) pe_non (nomark _)) (pe_one (pe_cmpR op_in_seq (pe_ix ix_tup (pv 0) pe_int (fun _ _ => rfl)) (pe_tup (pa_cons (pe_gi T.i_DATA rfl) (pa_cons (pe_gi T.i_NODE rfl) pa_nil))) (by rfl)))))), ?_⟩
    cases o with
    | none =>
      cases ho
      exact ⟨_, rfl, rfl, _, rfl, k _ fun _ _ e => e⟩
    | some b =>
      obtain ⟨t, rfl, tb, ht, _⟩ := ho
      refine ⟨_, rfl, rfl, _, rfl, ?_⟩
      refine ⟨_, rfl, t, _, _, _, rfl, rfl, SqT.of ht, atI_nat (j := 0) rfl, ?_⟩
      refine ⟨by show 2 ≤ sizeLine; decide, fun p hp => ?_⟩
      refine ⟨p, [.int 3, .int 4], rfl, .inr (SqT.of upd_same), rfl, rfl, ?_⟩
      have e : (if false = true then !inV (.int (b.kind : Int)) [.int 3, .int 4] else inV (.int (b.kind : Int)) [.int 3, .int 4]) = isPayO (some b) := by
        rw [if_neg Bool.false_ne_true]
        have := inV_nats (k := b.kind) (ks := [3, 4])
        rw [show nats [3, 4] = [V.int 3, V.int 4] from rfl] at this
        rw [this]
        unfold isPayO
        congr 1
        simp
      show Q (.bl _) _
      rw [e]
      exact k _ fun b o e => by rw [upd_ne (ne_of_none e hp)]; exact e
def sp_payload_of (K : PySem.W.Frag) : Sp := fun vs H Q _ => ∃ (o : Option Blk) (v : V), vs = [v] ∧ OBR H o v ∧
  (isPayO o = false → ∀ H', Same H H' → Q .non H') ∧ (∀ b t tb, o = some b → v = .ref t → H t = some (.tup [.int (b.kind : Int), .int (b.seq : Int), .int (b.rank : Int), .ref tb]) → isPayO o = true → ∀ H' p, Same H H' → H p = Option.none → H' p = some (.tup [.int (b.kind : Int), .ref tb]) → Q (.ref p) H')
theorem sc_payload_of : FnScope ["block"] ["block"] (defScope s_payload_of) := ⟨rfl, rfl, rfl, by decide +kernel, rfl, by decide +kernel, by decide +kernel⟩
theorem cal_payload_of (T : Txt K mg) (F : FD K mg "payload_of" s_payload_of) (c_is_payload : C8.Cal P w K mg base 1 "is_payload" (sp_is_payload K) []) : C8.Cal P w K mg base 2 "payload_of" (sp_payload_of K) [] := by
  obtain ⟨f, fd, F, hm⟩ := F
  refine ⟨f, fd, _, _, F.ok sc_payload_of (fun vs H Q E h => ?_) (fun cdv A outer s H vs Q E hr h => ?_), hm, F.kp, F.bindsN (fun _ _ _ _ _ _ us hl => match us, hl with | [_], _ => rfl), .nil⟩
  · obtain ⟨_, _, rfl, _⟩ := h
    rfl
  · obtain ⟨o, v, rfl, ho, k0, k1⟩ := h
    refine ⟨_, PSs.nox (pss_cons (ps_if (pt_val (C8.pe_c c_is_payload hr (by decide) (by rfl) (pa_cons (pv 0) pa_nil))) (pss_one (ps_ret (pe_tup (pa_cons (pe_ix ix_tup (pv 0) pe_int (fun _ _ => rfl)) (pa_cons (pe_ix ix_tup (pv 0) pe_int (fun _ _ => rfl)) pa_nil))))) pss_nil)
      (pss_one (ps_ret pe_non))), ?_⟩
    refine ⟨_, rfl, o, v, rfl, ho, fun H1 s1 => ?_⟩
    refine ⟨_, rfl, ?_⟩
    cases hb : isPayO o with
    | false => exact k0 hb H1 s1
    | true =>
      cases o with
      | none => cases hb
      | some b =>
        obtain ⟨t, rfl, tb, ht, _⟩ := ho
        refine iteT ?_
        refine ⟨_, rfl, t, _, _, _, rfl, rfl, SqT.of (s1 _ _ ht), atI_nat (j := 0) rfl, ?_⟩
        refine ⟨_, rfl, t, _, _, _, rfl, rfl, SqT.of (s1 _ _ ht), atI_nat (j := 3) rfl, ?_⟩
        refine ⟨by show 2 ≤ sizeLine; decide, fun p hp => ?_⟩
        exact k1 b t tb rfl rfl ht hb _ p (fun b o e => by rw [upd_ne (ne_of_none (s1 _ _ e) hp)]; exact s1 _ _ e) (by
          cases z : H p with
          | none => rfl
          | some u => rw [s1 _ _ z] at hp; cases hp) upd_same
def sp_stamped (K : PySem.W.Frag) : Sp := fun vs H Q _ => ∃ (pp tb : Addr) (k s r : Nat), vs = [.ref pp, .int (s : Int), .int (r : Int)] ∧ H pp = some (.tup [.int (k : Int), .ref tb]) ∧
  ∀ p, H p = Option.none → Q (.ref p) (upd H p (.tup [.int (k : Int), .int (s : Int), .int (r : Int), .ref tb]))
theorem sc_stamped : FnScope ["payload", "sequence", "rank"] ["payload", "sequence", "rank"] (defScope s_stamped) := ⟨rfl, rfl, rfl, by decide +kernel, rfl, by decide +kernel, by decide +kernel⟩
theorem cal_stamped (T : Txt K mg) (F : FD K mg "stamped" s_stamped) : C8.Cal P w K mg base 1 "stamped" (sp_stamped K) [] := by
  obtain ⟨f, fd, F, hm⟩ := F
  refine ⟨f, fd, _, _, F.ok sc_stamped (fun vs H Q E h => ?_) (fun cdv A outer s H vs Q E hr h => ?_), hm, F.kp, F.bindsN (fun _ _ _ _ _ _ us hl => match us, hl with | [_, _, _], _ => rfl), .nil⟩
  · obtain ⟨_, _, _, _, _, rfl, _⟩ := h
    rfl
  · obtain ⟨pp, tb, k, z, r, rfl, hp, q⟩ := h
    refine ⟨_, PSs.nox (pss_one (ps_ret (pe_tup (pa_cons (pe_ix ix_tup (pv 0) pe_int (fun _ _ => rfl)) (pa_cons (pv 1) (pa_cons (pv 2) (pa_cons (pe_ix ix_tup (pv 0) pe_int (fun _ _ => rfl)) pa_nil))))))), ?_⟩
    refine ⟨_, rfl, pp, _, _, _, rfl, rfl, SqT.of hp, atI_nat (j := 0) rfl, ?_⟩
    refine ⟨_, rfl, _, rfl, ?_⟩
    refine ⟨_, rfl, pp, _, _, _, rfl, rfl, SqT.of hp, atI_nat (j := 1) rfl, ?_⟩
    exact ⟨by show 4 ≤ sizeLine; decide, q⟩
end

end K30

namespace K30
open PySem PySem.Spec PyProof.Rows L2
/-! ## W3: tables -/
open K30X
theorem placeIds_snoc : ∀ (ks : List Nat) (t : List Nat) (s k : Nat), placeIds t s (ks ++ [k]) = if 0 < k ∧ k < t.length then (placeIds t s ks).set k (s + ks.length) else placeIds t s ks
  | [], t, s, k => rfl
  | j :: js, t, s, k => by
    rw [List.cons_append]
    unfold placeIds
    rw [placeIds_snoc js]
    have hl : (if 0 < j ∧ j < t.length then t.set j s else t).length = t.length := by split <;> simp
    rw [hl]
    have e : s + 1 + js.length = s + (j :: js).length := by simp; omega
    rw [e]
theorem nats_set {xs : List Nat} {k v : Nat} : (nats xs).set k (.int (v : Int)) = nats (xs.set k v) := by
  unfold nats; rw [List.map_set]
def useL (n : Nat) (us : List Nat) : List V := (List.range n).map fun k => V.bl (decide (0 < k ∧ k ∈ us))
theorem useL_len {n : Nat} {us : List Nat} : (useL n us).length = n := by simp [useL]
theorem useL_nil {n : Nat} : List.replicate n (V.bl false) = useL n [] := by
  unfold useL
  apply List.ext_getElem
  · simp
  · intro i h1 h2; simp
theorem useL_snoc {n : Nat} {us : List Nat} {k : Nat} : useL n (us ++ [k]) = if 0 < k ∧ k < n then (useL n us).set k (.bl true) else useL n us := by
  apply List.ext_getElem
  · split <;> simp [useL]
  · intro i h1 h2
    have hi : i < n := by simpa [useL] using h1
    split
    · rename_i c
      rw [List.getElem_set]
      split
      · rename_i e
        subst e
        simp [useL, c.1]
      · rename_i e
        have e' : ¬ i = k := fun q => e q.symm
        simp [useL, e']
    · rename_i c
      have e' : 0 < i → ¬ i = k := fun q1 q => c ⟨q ▸ q1, q ▸ hi⟩
      simp only [useL, List.getElem_map, List.getElem_range, List.mem_append, List.mem_singleton]
      congr 1
      apply decide_eq_decide.mpr
      constructor
      · rintro ⟨a, b⟩
        rcases b with b | b
        · exact ⟨a, b⟩
        · exact absurd b (e' a)
      · rintro ⟨a, b⟩; exact ⟨a, .inl b⟩
theorem useL_at {n : Nat} {us : List Nat} {k : Nat} (h : k < n) : (useL n us)[k]? = some (.bl (decide (0 < k ∧ k ∈ us))) := by
  unfold useL
  rw [List.getElem?_map, List.getElem?_range h]; rfl
theorem take_snoc {α : Type} {xs : List α} {i : Nat} {x : α} (h : xs[i]? = some x) : xs.take (i + 1) = xs.take i ++ [x] := by
  rw [List.take_add_one, h]; rfl
theorem nats_get2 {xs : List Nat} {i n : Nat} (h : xs[i]? = some n) : (nats xs)[i]? = some (.int (n : Int)) := by
  unfold nats; rw [List.getElem?_map, h]; rfl
theorem nats_get {xs : List Nat} {i : Nat} {v : V} (h : (nats xs)[i]? = some v) : ∃ n, xs[i]? = some n ∧ v = .int (n : Int) := by
  unfold nats at h
  rw [List.getElem?_map] at h
  cases e : xs[i]? with
  | none => rw [e] at h; cases h
  | some n => rw [e] at h; exact ⟨n, rfl, (Option.some.inj h).symm⟩
section
variable {P : Program} {w : World} {K : PySem.W.Frag} {mg : Str → Option Value} {base : Heap}
def NewL (H : Hp) (xs : List V) (Q : VK) : Prop := ∀ H' p, Same H H' → H p = Option.none → H' p = some (.lst xs) → Q (.ref p) H'
def sp_commit_to_table (K : PySem.W.Frag) : Sp := fun vs H Q _ => ∃ (t ids used : Addr) (tb is us : List Nat) (start : Nat), vs = [.ref t, .int (start : Int), .ref ids, .ref used] ∧ H t = some (.lst (nats tb)) ∧ H ids = some (.tup (nats is)) ∧ H used = some (.tup (nats us)) ∧ tb.length ≤ 1000 ∧
  NewL H (nats (commitT tb start is us)) Q
theorem sc_commit_to_table : FnScope ["table", "start", "ids", "used", "placed", "number", "key", "in_use", "address"] ["table", "start", "ids", "used"] (defScope s_commit_to_table) := ⟨rfl, rfl, rfl, by decide +kernel, rfl, by decide +kernel, by decide +kernel⟩
theorem cal_commit_to_table (T : Txt K mg) (F : FD K mg "commit_to_table" s_commit_to_table) : C8.Cal P w K mg base 1 "commit_to_table" (sp_commit_to_table K) [] := by
  obtain ⟨f, fd, F, hm⟩ := F
  refine ⟨f, fd, _, _, F.ok sc_commit_to_table (fun vs H Q E h => ?_) (fun cdv A outer s H vs Q E hr h => ?_), hm, F.kp, F.bindsN (fun _ _ _ _ _ _ us hl => match us, hl with | [_, _, _, _], _ => rfl), .nil⟩
  · obtain ⟨_, _, _, _, _, _, _, rfl, _⟩ := h
    rfl
  · obtain ⟨t, ids, used, tb, is, us, start, rfl, ht, hi, hu, hlen, k⟩ := h
    refine ⟨_, PSs.nox (pss_cons (ps_set (i := 4) sc_commit_to_table.nd rfl (Or.inl rfl) (pe_callTy call_list_of (by rfl) T.b_list (by decide +kernel) (pa_cons (pv 0) pa_nil)))
      (pss_cons (ps_for PassesOwn.never rfl (pi_enumT (by rfl) T.b_enumerate (pa_cons (pv 2) pa_nil)) (pg_tup rfl (pgs_cons (pg_name (i := 5) sc_commit_to_table.nd rfl (Or.inl rfl)) (pgs_cons (pg_name (i := 6) sc_commit_to_table.nd rfl (Or.inl rfl)) pgs_nil))) (pss_one (ps_if (pt_chain op_lt op_lt pe_int (pv 6) (pe_callB call_len_seq (by rfl) T.b_len PySem.boot_len (pa_cons (pv 4) pa_nil))) (pss_one (ps_asg (pe_op op_add (pv 1) (pv 5)) (pg_sub (pv 4) (pv 6) set_list))) pss_nil)))
      (pss_cons (ps_set (i := 7) sc_commit_to_table.nd rfl (Or.inr rfl) (pe_op op_rep (pe_lst (pa_cons pe_bl pa_nil)) (pe_callB call_len_seq (by rfl) T.b_len PySem.boot_len (pa_cons (pv 4) pa_nil))))
      (pss_cons (ps_for PassesOwn.never rfl (pi_tup (pv 3)) (pg_name (i := 6) sc_commit_to_table.nd rfl (Or.inl rfl)) (pss_one (ps_if (pt_chain op_lt op_lt pe_int (pv 6) (pe_callB call_len_seq (by rfl) T.b_len PySem.boot_len (pa_cons (pv 4) pa_nil))) (pss_one (ps_asg pe_bl (pg_sub (pv 7) (pv 6) set_list))) pss_nil)))
      (pss_one (ps_ret (pe_lc (own := [("key", 6), ("address", 8)])  (tt := tYes) (by rfl) sc_commit_to_table.nd (pi_enum (by rfl) T.b_enumerate (pa_cons (pv 4) pa_nil)) (blkOk_by (N := ["table", "start", "ids", "used", "placed", "number", "key", "in_use", "address"]) (sc := defScope s_commit_to_table) (by decide +kernel)) (fun _ _ _ _ _ => pg_tupK (K := K) (n := 2) rfl rfl (pgs_cons (pg_name (i := 6) sc_commit_to_table.nd rfl (Or.inl rfl)) (pgs_cons (pg_name (i := 8) sc_commit_to_table.nd rfl (Or.inl rfl)) pgs_nil))) (fun _ _ _ _ _ => pts_nil) (fun _ _ _ _ _ => (pe_ifExp (pt_val (pe_ix (ixL_K (K := K) rfl) (pv 7) (pv 6) (fun _ _ => rfl))) (pv 8) pe_int))))))))), ?_⟩
    refine ⟨_, rfl, t, _, rfl, .inl (SqL.of ht), fun p hp => ?_⟩
    have l0 : ∀ i, (placeIds tb start (is.take i)).length = tb.length := fun i => placeIds_len _ _ _
    -- the first loop
    refine ⟨_, rfl, ids, _, rfl, SqT.of (uN hi hp), for_it walk_enumT (fun i σ H' => ∃ v5 v6, σ = [some (.ref t), some (.int (start : Int)), some (.ref ids), some (.ref used), some (.ref p), v5, v6, none, none] ∧ Same H H' ∧ H' p = some (.lst (nats (placeIds tb start (is.take i)))))
      ⟨none, none, rfl, sN (sR H) hp, upd_same⟩ (fun i σ H' _ ⟨_, _, _, s1, _⟩ => SqT.of (s1 _ _ hi)) ?_ ?_⟩
    · rintro i x σ H1 H2 hlt ⟨v5, v6, rfl, s1, h1⟩ ⟨T0, a, b, rfl, hT, rfl, ea, eb⟩
      cases ea
      obtain ⟨n, en, rfl⟩ := nats_get eb
      have s2 : Same H (upd H1 T0 (.tup [.int (i : Nat), .int (n : Int)])) := sN s1 hT
      have h2 : upd H1 T0 (.tup [.int (i : Nat), .int (n : Int)]) p = some (.lst (nats (placeIds tb start (is.take i)))) := uN h1 hT
      refine ⟨T0, _, rfl, SqT.of upd_same, rfl, _, _, rfl, ?_⟩
      refine ⟨_, _, rfl, rfl, ?_⟩
      refine ⟨_, rfl, _, _, rfl, rfl, _, rfl, ?_⟩
      by_cases c1 : (0 : Int) < (n : Int)
      · refine dT c1 ?_
        refine ⟨_, rfl, p, _, rfl, .inl (SqL.of h2), _, _, rfl, rfl, _, rfl, ?_⟩
        rw [nats_len, l0]
        by_cases c2 : (n : Int) < (tb.length : Int)
        · refine dT c2 ?_
          refine ⟨_, rfl, _, rfl, _, _, rfl, rfl, ?_⟩
          refine ⟨_, rfl, _, rfl, p, _, _, n, rfl, rfl, h2, ?_, ?_⟩
          · rw [nats_len, l0]
            unfold ixN
            rw [if_pos (by omega), if_pos c2]
            rfl
          refine ⟨_, _, rfl, sM s2 hp, ?_⟩
          rw [upd_same, take_snoc en, placeIds_snoc, if_pos ⟨by omega, by omega⟩]
          have e : ((start : Int) + ((i : Nat) : Int)) = ((start + i : Nat) : Int) := by omega
          show some (HO.lst ((nats _).set n (.int ((start : Int) + ((i : Nat) : Int))))) = _
          rw [e, nats_set]
          have hl : (is.take i).length = i := by
            rw [List.length_take]; have := (List.getElem?_eq_some_iff.mp en).1; omega
          rw [hl]
        · refine dF c2 ?_
          refine ⟨_, _, rfl, s2, ?_⟩
          rw [h2, take_snoc en, placeIds_snoc, if_neg (by omega)]
      · refine dF c1 ?_
        refine ⟨_, rfl, iteF ?_⟩
        refine ⟨_, _, rfl, s2, ?_⟩
        rw [h2, take_snoc en, placeIds_snoc, if_neg (by omega)]
    · rintro σ H1 ⟨v5, v6, rfl, s1, h1⟩
      rw [nats_len, List.take_length] at h1
      -- in_use
      refine ⟨by show 1 ≤ sizeLine; decide, fun q hq => ?_⟩
      refine ⟨_, rfl, p, _, rfl, .inl (SqL.of (uN h1 hq)), ?_⟩
      rw [nats_len, placeIds_len]
      refine ⟨q, _, _, rfl, rfl, upd_same, by omega, by omega, sz_ok (by simp; omega), fun r hr' => ?_⟩
      have hrq : r ≠ q := fun e => by rw [e, upd_same] at hr'; cases hr'
      have hr1 : H1 r = none := by rw [upd_ne hrq] at hr'; exact hr'
      have hr0 : H r = none := sF s1 hr1
      have h3 : upd (upd H1 q (.lst [.bl false])) r (.lst ((List.replicate ((tb.length : Int)).toNat [V.bl false]).flatten)) p = some (.lst (nats (placeIds tb start is))) := uN (uN h1 hq) hr'
      have s3 : Same H (upd (upd H1 q (.lst [.bl false])) r (.lst ((List.replicate ((tb.length : Int)).toNat [V.bl false]).flatten))) := sN (sN s1 hq) hr'
      -- the second loop
      refine ⟨_, rfl, used, rfl, ⟨_, SqT.of (s3 _ _ hu)⟩, for_tup (K := K) (a := used) (xs := nats us) (fun i σ H' => ∃ v5 v6, σ = [some (.ref t), some (.int (start : Int)), some (.ref ids), some (.ref used), some (.ref p), v5, v6, some (.ref r), none] ∧ Same H H' ∧ H' p = some (.lst (nats (placeIds tb start is))) ∧ H' r = some (.lst (useL tb.length (us.take i))))
        ⟨_, _, rfl, s3, h3, ?_⟩ (fun i σ H' _ ⟨_, _, _, s1, _⟩ => SqT.of (s1 _ _ hu)) ?_ ?_⟩
      · rw [upd_same, List.take_zero, ← useL_nil]
        simp
      · rintro i x σ H4 hx ⟨v5, v6, rfl, s4, h4, h5⟩
        obtain ⟨n, en, rfl⟩ := nats_get hx
        refine ⟨_, rfl, _, _, rfl, rfl, _, rfl, ?_⟩
        by_cases c1 : (0 : Int) < (n : Int)
        · refine dT c1 ?_
          refine ⟨_, rfl, p, _, rfl, .inl (SqL.of h4), _, _, rfl, rfl, _, rfl, ?_⟩
          rw [nats_len, placeIds_len]
          by_cases c2 : (n : Int) < (tb.length : Int)
          · refine dT c2 ?_
            refine ⟨_, rfl, _, rfl, r, _, _, n, rfl, rfl, h5, ?_, ?_⟩
            · rw [useL_len]
              unfold ixN
              rw [if_pos (by omega), if_pos c2]
              rfl
            have npr : p ≠ r := fun e => by rw [e, hr1] at h1; cases h1
            refine ⟨_, _, rfl, sM s4 hr0, by rw [upd_ne npr]; exact h4, ?_⟩
            rw [upd_same, take_snoc en, useL_snoc, if_pos ⟨by omega, by omega⟩]
          · refine dF c2 ?_
            refine ⟨_, _, rfl, s4, h4, ?_⟩
            rw [h5, take_snoc en, useL_snoc, if_neg (by omega)]
        · refine dF c1 ?_
          refine ⟨_, rfl, iteF ?_⟩
          refine ⟨_, _, rfl, s4, h4, ?_⟩
          rw [h5, take_snoc en, useL_snoc, if_neg (by omega)]
      · rintro σ H4 ⟨v5, v6, rfl, s4, h4, h5⟩
        rw [nats_len, List.take_length] at h5
        -- the comprehension
        refine ⟨_, rfl, p, _, rfl, SqL.of h4, fun D hD => lc_it walk_enum (fun i H' => Same H4 H' ∧ H' D = some (.lst ((nats (commitT tb start is us)).take i)))
          ⟨sN (sR H4) hD, by rw [upd_same, List.take_zero]⟩ (fun i H' _ ⟨s5, _⟩ => SqL.of (s5 _ _ h4)) ?_ ?_⟩
        · rintro i x H5 H6 hlt ⟨s5, h6⟩ ⟨T0, a, b, rfl, hT, rfl, ea, eb⟩
          cases ea
          obtain ⟨n, en, rfl⟩ := nats_get eb
          have hlt' : i < tb.length := by rw [nats_len, placeIds_len] at hlt; exact hlt
          have s7 : Same H4 (upd H5 T0 (.tup [.int (i : Nat), .int (n : Int)])) := sN s5 hT
          have h7 := uN (o := .tup [.int (i : Nat), .int (n : Int)]) h6 hT
          refine ⟨T0, _, rfl, SqT.of upd_same, rfl, _, _, rfl, _, _, rfl, rfl, rfl, ?_⟩
          refine ⟨_, rfl, _, rfl, r, _, _, _, rfl, rfl, SqL.of (s7 _ _ h5), atI_nat (useL_at hlt'), _, rfl, ?_⟩
          have hfin : (nats (commitT tb start is us))[i]? = some (.int (((if 0 < i ∧ i ∈ us then n else 0 : Nat)) : Int)) := by
            have e : (commitT tb start is us)[i]? = some (if 0 < i ∧ i ∈ us then n else 0) := by
              unfold commitT
              rw [List.getElem?_map, List.getElem?_range hlt']
              have : (placeIds tb start is).getD i 0 = n := by simp [List.getD, en]
              rw [Option.map_some, this]
            exact nats_get2 e
          by_cases c : 0 < i ∧ i ∈ us
          · refine dT c ?_
            rw [if_pos c] at hfin
            refine ⟨_, rfl, _, h7, ?_, ?_⟩
            · rw [List.length_take, nats_len, commitT_len]; exact sz_lt (by omega)
            · refine ⟨sM s7 hD, ?_⟩
              rw [upd_same, take_snoc hfin]
          · refine dF c ?_
            rw [if_neg c] at hfin
            refine ⟨_, h7, ?_, ?_⟩
            · rw [List.length_take, nats_len, commitT_len]; exact sz_lt (by omega)
            · refine ⟨sM s7 hD, ?_⟩
              rw [upd_same, take_snoc hfin]
              rfl
        · rintro H5 ⟨s5, h6⟩
          refine k H5 D (sT s4 s5) (sF s4 hD) ?_
          rw [h6]
          congr 2
          rw [List.take_of_length_le]
          rw [nats_len, nats_len, placeIds_len, commitT_len]
          exact Nat.le_refl _
end

end K30

namespace K30
open PySem PySem.Spec PyProof.Rows L2
/-! ## W4: slots, moves -/
open K30X
theorem All2.take {α β : Type} {R : α → β → Prop} {xs : List α} {ys : List β} (h : All2 R xs ys) (n : Nat) : All2 R (xs.take n) (ys.take n) :=
  ⟨by simp [h.1], fun i x y h1 h2 => by
    rw [List.getElem?_take] at h1 h2
    by_cases c : i < n
    · rw [if_pos c] at h1 h2; exact h.2 i x y h1 h2
    · rw [if_neg c] at h1; cases h1⟩
theorem ixN_nat {n : Nat} {k : Nat} {i : Int} (e : i = (k : Int)) (h : k < n) : ixN n i = some k := by
  unfold ixN
  rw [if_pos (by omega), if_pos (by omega)]
  congr 1
  omega
/-- a slot made anew: Hi, what stood ahead -/
def SlN (Hi H : Hp) (o : Option (List Nat)) (v : V) : Prop := SlR H o v ∧ ∀ a, v = .ref a → Hi a = none
def SlX (D : Addr) (Hi H : Hp) (o : Option (List Nat)) (v : V) : Prop := SlN Hi H o v ∧ v ≠ .ref D
theorem SlX.put {D : Addr} {Hi H : Hp} {o : Option (List Nat)} {v : V} {u : HO} (h : SlX D Hi H o v) : SlX D Hi (upd H D u) o v := by
  refine ⟨⟨?_, h.1.2⟩, h.2⟩
  cases o with
  | none => exact h.1.1
  | some t =>
    obtain ⟨q, e1, e2⟩ := h.1.1
    exact ⟨q, e1, by rw [upd_ne (fun e => h.2 (by rw [e1, e]))]; exact e2⟩
theorem SlX.new {D p : Addr} {Hi H : Hp} {o : Option (List Nat)} {v : V} {u : HO} (h : SlX D Hi H o v) (hp : H p = none) : SlX D Hi (upd H p u) o v := ⟨⟨h.1.1.same (sN (sR H) hp), h.1.2⟩, h.2⟩
section
variable {P : Program} {w : World} {K : PySem.W.Frag} {mg : Str → Option Value} {base : Heap}
def sp_slots_after (K : PySem.W.Frag) : Sp := fun vs H Q _ => ∃ (sl t : Addr) (act : Nat) (vsl : List V) (slots : List (Option (List Nat))) (tb : List Nat), vs = [.ref sl, .ref t, .int (act : Int)] ∧ H sl = some (.lst vsl) ∧ All2 (SlR H) slots vsl ∧ slots.length = 3 ∧ H t = some (.lst (nats tb)) ∧ act ≤ 6 ∧
  ∀ H' p vs', Same H H' → H p = Option.none → H' p = some (.lst vs') → All2 (SlN H H') (slotsAfter slots tb act) vs' → Q (.ref p) H'
theorem sc_slots_after : FnScope ["slots", "table", "action", "result", "slot"] ["slots", "table", "action"] (defScope s_slots_after) := ⟨rfl, rfl, rfl, by decide +kernel, rfl, by decide +kernel, by decide +kernel⟩
theorem cal_slots_after (T : Txt K mg) (F : FD K mg "slots_after" s_slots_after) : C8.Cal P w K mg base 1 "slots_after" (sp_slots_after K) [] := by
  obtain ⟨f, fd, F, hm⟩ := F
  refine ⟨f, fd, _, _, F.ok sc_slots_after (fun vs H Q E h => ?_) (fun cdv A outer s H vs Q E hr h => ?_), hm, F.kp, F.bindsN (fun _ _ _ _ _ _ us hl => match us, hl with | [_, _, _], _ => rfl), .nil⟩
  · obtain ⟨_, _, _, _, _, _, rfl, _⟩ := h
    rfl
  · obtain ⟨sl, t, act, vsl, slots, tb, rfl, hsl, rs, h3, ht, ha, k⟩ := h
    obtain ⟨tS, eS⟩ := T.i_SLOTS
    refine ⟨_, PSs.nox (pss_cons (ps_setLc (i := 3) (own := [("slot", 4)]) (g := gName 4) (tt := tYes) rfl sc_slots_after.nd rfl rfl (sw_true rfl rfl rfl (by decide +kernel)) (pi_list (pv 0)) (blkOk_by (N := ["slots", "table", "action", "result", "slot"]) (sc := defScope s_slots_after) (by decide +kernel)) (fun _ _ _ _ _ => pg_name (i := 4) sc_slots_after.nd rfl (Or.inl rfl)) (fun _ _ _ _ _ => pts_nil) (fun _ _ _ _ _ => (pe_ifExp (pt_cmpR op_isN (pv 4) pe_non (nomark _)) pe_non (pe_callTy (list_K (K := K) rfl) (by rfl) T.b_list (by decide +kernel) (pa_cons (pv 4) pa_nil)))))
      (pss_cons (ps_if (pt_chain op_le op_le pe_int (pv 2) (pe_gi T.i_SLOTS rfl)) (pss_one (ps_asg (pe_callTy call_list_of (by rfl) T.b_list (by decide +kernel) (pa_cons (pv 1) pa_nil)) (pg_sub (pv 3) (pe_op op_sub (pv 2) pe_int) set_list))) (pss_one (ps_if (pt_chain op_lt op_le (pe_gi T.i_SLOTS rfl) (pv 2) (pe_op op_mul pe_int (pe_gi T.i_SLOTS rfl))) (pss_one (ps_asg pe_non (pg_sub (pv 3) (pe_op op_sub (pe_op op_sub (pv 2) (pe_gi T.i_SLOTS rfl)) pe_int) set_list))) pss_nil)))
      (pss_one (ps_ret (pv 3))))), ?_⟩
    refine ⟨_, rfl, sl, rfl, ⟨_, SqL.of hsl⟩, fun D hD => lc_list (K := K) (a := sl) (xs := vsl) (fun i H' => Same H H' ∧ ∃ acc, H' D = some (.lst acc) ∧ All2 (SlX D H H') (slots.take i) acc)
      ⟨sN (sR H) hD, [], upd_same, by rw [List.take_zero]; exact .nil⟩ (fun i H' _ ⟨s1, _⟩ => SqL.of (s1 _ _ hsl)) ?_ ?_⟩
    · rintro i x H1 hx ⟨s1, acc, ha1, r1⟩
      have hlen : i < slots.length := by rw [rs.1]; exact (List.getElem?_eq_some_iff.mp hx).1
      have ei : slots[i]? = some slots[i] := List.getElem?_eq_getElem hlen
      have ri := rs.2 i _ x ei hx
      have hal : acc.length < sizeLine := sz_lt (by rw [← r1.1, List.length_take]; omega)
      refine ⟨rfl, ?_⟩
      cases e : slots[i] with
      | none =>
        rw [e] at ri ei
        cases ri
        refine ⟨_, rfl, rfl, _, rfl, ?_⟩
        refine ⟨acc, ha1, hal, sM s1 hD, _, upd_same, ?_⟩
        rw [take_snoc ei]
        exact All2.snoc (r1.mono fun o v z => z.put) ⟨⟨rfl, fun _ q => (by cases q)⟩, fun q => (by cases q)⟩
      | some u =>
        rw [e] at ri ei
        obtain ⟨q, rfl, hq⟩ := ri
        refine ⟨_, rfl, rfl, _, rfl, ?_⟩
        refine ⟨_, rfl, q, _, rfl, .inl (SqL.of (s1 _ _ hq)), fun p hp => ?_⟩
        have npD : p ≠ D := fun e => by rw [e, ha1] at hp; cases hp
        refine ⟨acc, uN ha1 hp, hal, sM (sN s1 hp) hD, _, upd_same, ?_⟩
        rw [take_snoc ei]
        refine All2.snoc (r1.mono fun o v z => (z.new hp).put) ⟨⟨⟨p, rfl, ?_⟩, fun a q => by cases q; exact sF s1 hp⟩, fun q => npD (by injection q)⟩
        rw [upd_ne npD, upd_same]
    · rintro H1 ⟨s1, acc, ha1, r1⟩
      rw [List.take_of_length_le (by rw [rs.1]; exact Nat.le_refl _)] at r1
      have hl3 : acc.length = 3 := by rw [← r1.1, h3]
      have iS : ∀ (σ : L2.St) (H : Hp) (Q : VK), Q (.int 3) H → (tC (.int 3)) σ H Q := fun _ _ _ q => q
      refine ⟨_, rfl, _, _, rfl, rfl, _, rfl, ?_⟩
      by_cases c1 : (1 : Int) ≤ (act : Int)
      · refine dT c1 ?_
        refine ⟨_, _, rfl, rfl, _, rfl, ?_⟩
        by_cases c2 : (act : Int) ≤ 3
        · refine dT c2 ?_
          refine ⟨_, rfl, t, _, rfl, .inl (SqL.of (s1 _ _ ht)), fun p hp => ?_⟩
          have npD : p ≠ D := fun e => by rw [e, ha1] at hp; cases hp
          refine ⟨_, rfl, _, rfl, _, _, rfl, rfl, ?_⟩
          refine ⟨D, _, _, act - 1, rfl, rfl, uN ha1 hp, ixN_nat (by omega) (by omega), ?_⟩
          refine ⟨_, rfl, ?_⟩
          refine k _ D _ (sM (sN s1 hp) hD) hD upd_same ?_
          unfold slotsAfter
          rw [if_pos ⟨by omega, by omega⟩]
          refine All2.set (r1.mono fun o v z => (z.new hp).put.1) ⟨⟨p, rfl, ?_⟩, fun a q => by cases q; exact sF s1 hp⟩
          rw [upd_ne npD, upd_same]
        · refine dF c2 ?_
          refine ⟨_, rfl, _, _, rfl, rfl, _, rfl, ?_⟩
          refine dT (show (3 : Int) < (act : Int) by omega) ?_
          refine ⟨_, _, rfl, rfl, .inl ⟨by decide, by decide⟩, _, _, rfl, rfl, _, rfl, ?_⟩
          refine dT (show (act : Int) ≤ 2 * 3 by omega) ?_
          refine ⟨_, rfl, _, rfl, _, _, rfl, rfl, _, _, rfl, rfl, ?_⟩
          refine ⟨D, _, _, act - 4, rfl, rfl, ha1, ixN_nat (by omega) (by omega), ?_⟩
          refine ⟨_, rfl, ?_⟩
          refine k _ D _ (sM s1 hD) hD upd_same ?_
          unfold slotsAfter
          rw [if_neg (by omega), if_pos ⟨by omega, by omega⟩]
          exact All2.set (r1.mono fun o v z => z.put.1) ⟨rfl, fun _ q => (by cases q)⟩
      · refine dF c1 ?_
        refine ⟨_, rfl, iteF ?_⟩
        refine ⟨_, rfl, _, _, rfl, rfl, _, rfl, ?_⟩
        refine dF (show ¬ (3 : Int) < (act : Int) by omega) ?_
        refine ⟨_, rfl, iteF ?_⟩
        refine ⟨_, rfl, ?_⟩
        refine k _ D _ s1 hD ha1 ?_
        unfold slotsAfter
        rw [if_neg (by omega), if_neg (by omega)]
        exact r1.mono fun o v z => z.1
/-- what a table becomes, as a dict's look-ups say it -/
def mvK (start : Nat) (xs : List Nat) (kvs : List (Key × V)) : Prop := ∀ a : Nat, valV kvs (Sum.inl (a : Int)) = if a ≠ 0 ∧ a ∈ xs then some (.int ((start + xs.idxOf a : Nat) : Int)) else Option.none
def sp_move_in_table (K : PySem.W.Frag) : Sp := fun vs H Q _ => ∃ (t ad : Addr) (tb xs : List Nat) (start : Nat), vs = [.ref t, .int (start : Int), .ref ad] ∧ H t = some (.lst (nats tb)) ∧ H ad = some (.tup (nats xs)) ∧ tb.length ≤ 1000 ∧ xs.length ≤ 1000 ∧ NewL H (nats (moveT tb start xs)) Q
theorem sc_move_in_table : FnScope ["table", "start", "addresses", "moved", "number", "address"] ["table", "start", "addresses"] (defScope s_move_in_table) := ⟨rfl, rfl, rfl, by decide +kernel, rfl, by decide +kernel, by decide +kernel⟩
theorem cal_move_in_table (T : Txt K mg) (F : FD K mg "move_in_table" s_move_in_table) : C8.Cal P w K mg base 1 "move_in_table" (sp_move_in_table K) [] := by
  obtain ⟨f, fd, F, hm⟩ := F
  refine ⟨f, fd, _, _, F.ok sc_move_in_table (fun vs H Q E h => ?_) (fun cdv A outer s H vs Q E hr h => ?_), hm, F.kp, F.bindsN (fun _ _ _ _ _ _ us hl => match us, hl with | [_, _, _], _ => rfl), .nil⟩
  · obtain ⟨_, _, _, _, _, rfl, _⟩ := h
    rfl
  · obtain ⟨t, ad, tb, xs, start, rfl, ht, had, hlen, hxl, k⟩ := h
    refine ⟨_, PSs.nox (pss_cons (ps_set (i := 3) sc_move_in_table.nd rfl (Or.inr rfl) pe_dnewK)
      (pss_cons (ps_for PassesOwn.never rfl (pi_enumT (by rfl) T.b_enumerate (pa_cons (pv 2) pa_nil)) (pg_tup rfl (pgs_cons (pg_name (i := 4) sc_move_in_table.nd rfl (Or.inl rfl)) (pgs_cons (pg_name (i := 5) sc_move_in_table.nd rfl (Or.inl rfl)) pgs_nil))) (pss_one (ps_if (PW.pt (pw_and (pt_cmpR op_ne (pv 5) pe_int (nomark _)) (pw_and1 (pt_cmp (pc_dnotin (hu_of hr) (pv 5) (pv 3)))))) (pss_one (ps_dput (hu_of hr) (pv 3) (pv 5) (pe_op op_add (pv 1) (pv 4)) rfl)) pss_nil)))
      (pss_one (ps_ret (pe_lc (own := [("address", 5)]) (g := gName 5) (tt := tYes) (by rfl) sc_move_in_table.nd (pi_list (pv 0)) (blkOk_by (N := ["table", "start", "addresses", "moved", "number", "address"]) (sc := defScope s_move_in_table) (by decide +kernel)) (fun _ _ _ _ _ => pg_name (i := 5) sc_move_in_table.nd rfl (Or.inl rfl)) (fun _ _ _ _ _ => pts_nil) (fun _ _ _ _ _ => (pe_dget2 (hu_of hr) (pv 3) (pv 5) (pv 5) ⟨rfl, rfl, rfl, rfl⟩))))))), ?_⟩
    intro d hd
    refine ⟨_, rfl, ad, _, rfl, SqT.of (uN had hd), for_it walk_enumT (fun i σ H' => ∃ v4 v5 kvs, σ = [some (.ref t), some (.int (start : Int)), some (.ref ad), some (.ref d), v4, v5] ∧ Same H H' ∧ H' d = some (.dK kvs) ∧ kvs.length ≤ i ∧ mvK start (xs.take i) kvs)
      ⟨none, none, [], rfl, sN (sR H) hd, upd_same, Nat.le_refl _, fun a => by rw [List.take_zero, if_neg (fun q => by cases q.2)]; rfl⟩ (fun i σ H' _ ⟨_, _, _, _, s1, _⟩ => SqT.of (s1 _ _ had)) ?_ ?_⟩
    · rintro i x σ H1 H2 hlt ⟨v4, v5, kvs, rfl, s1, h1, hl1, m1⟩ ⟨T0, a, b, rfl, hT, rfl, ea, eb⟩
      cases ea
      obtain ⟨n, en, rfl⟩ := nats_get eb
      have s2 := sN (o := .tup [.int (i : Nat), .int (n : Int)]) s1 hT
      have h2 := uN (o := .tup [.int (i : Nat), .int (n : Int)]) h1 hT
      have hil : i < xs.length := (List.getElem?_eq_some_iff.mp en).1
      have htl : (xs.take i).length = i := by rw [List.length_take]; omega
      refine ⟨T0, _, rfl, SqT.of upd_same, rfl, _, _, rfl, ?_⟩
      refine ⟨_, _, rfl, rfl, ?_⟩
      refine ⟨_, rfl, rfl, _, rfl, ?_⟩
      have step0 : ¬ (n ≠ 0 ∧ n ∉ xs.take i) → mvK start (xs.take (i + 1)) kvs := fun hc a => by
        rw [m1 a, take_snoc en]
        by_cases h0 : a = 0
        · rw [if_neg (fun q => q.1 h0), if_neg (fun q => q.1 h0)]
        · by_cases hm : a ∈ xs.take i
          · rw [if_pos ⟨h0, hm⟩, if_pos ⟨h0, List.mem_append_left _ hm⟩, List.idxOf_append, if_pos hm]
          · have hna : ¬ a = n := fun q => hc ⟨q ▸ h0, q ▸ hm⟩
            rw [if_neg (fun q => hm q.2), if_neg (fun q => by
              rcases List.mem_append.mp q.2 with z | z
              · exact hm z
              · exact hna (List.mem_singleton.mp z))]
      have step1 : n ≠ 0 → n ∉ xs.take i → mvK start (xs.take (i + 1)) (putK kvs (Sum.inl (n : Int)) (.int ((start : Int) + ((i : Nat) : Int)))) := fun h0 hm a => by
        rw [valV_put, take_snoc en]
        by_cases e : a = n
        · subst e
          rw [if_pos rfl, if_pos ⟨h0, List.mem_append_right _ List.mem_cons_self⟩, List.idxOf_append, if_neg hm, htl]
          simp
        · have e1 : ¬ (Sum.inl (a : Int) : Key) = Sum.inl (n : Int) := fun q => e (by have := Sum.inl.inj q; omega)
          rw [if_neg e1, m1 a]
          by_cases h0 : a = 0
          · rw [if_neg (fun q => q.1 h0), if_neg (fun q => q.1 h0)]
          · by_cases hm : a ∈ xs.take i
            · rw [if_pos ⟨h0, hm⟩, if_pos ⟨h0, List.mem_append_left _ hm⟩, List.idxOf_append, if_pos hm]
            · rw [if_neg (fun q => hm q.2), if_neg (fun q => by
                rcases List.mem_append.mp q.2 with z | z
                · exact hm z
                · exact e (List.mem_singleton.mp z))]
      by_cases c1 : n = 0
      · subst c1
        refine dNF (show V.int ((0 : Nat) : Int) = V.int 0 from rfl) ?_
        exact ⟨_, _, kvs, rfl, s2, h2, by omega, step0 fun q => q.1 rfl⟩
      · refine dNT (fun q => c1 (by injection q; omega)) ?_
        refine ⟨_, rfl, _, rfl, d, _, rfl, DGet.k (k := Sum.inl (n : Int)) h2, _, rfl, ?_⟩
        have mn := m1 n
        by_cases c2 : n ∈ xs.take i
        · rw [if_pos ⟨c1, c2⟩] at mn
          rw [mn]
          refine bF rfl ?_
          exact ⟨_, _, kvs, rfl, s2, h2, by omega, step0 fun q => q.2 c2⟩
        · rw [if_neg (fun q => c2 q.2)] at mn
          rw [mn]
          refine bT rfl ?_
          refine ⟨_, rfl, _, rfl, _, _, rfl, rfl, ?_⟩
          refine ⟨_, rfl, _, rfl, d, _, rfl, DPut.k (k := Sum.inl (n : Int)) h2 (sz_lt (by omega)), ?_⟩
          refine ⟨_, _, _, rfl, sM s2 hd, upd_same, ?_, step1 c1 c2⟩
          have : (putK kvs (Sum.inl (n : Int)) (.int ((start : Int) + ((i : Nat) : Int)))).length ≤ kvs.length + 1 := by
            unfold putK
            split <;> simp
          exact Nat.le_trans this (by omega)
    · rintro σ H1 ⟨v4, v5, kvs, rfl, s1, h1, hl1, m1⟩
      rw [nats_len, List.take_length] at m1
      refine ⟨_, rfl, t, rfl, ⟨_, SqL.of (s1 _ _ ht)⟩, fun D hD => lc_list (K := K) (a := t) (xs := nats tb) (fun i H' => Same H1 H' ∧ H' D = some (.lst ((nats (moveT tb start xs)).take i)))
        ⟨sN (sR H1) hD, by rw [upd_same, List.take_zero]⟩ (fun i H' _ ⟨s2, _⟩ => SqL.of (s2 _ _ (s1 _ _ ht))) ?_ ?_⟩
      · rintro i x H2 hx ⟨s2, h2⟩
        obtain ⟨n, en, rfl⟩ := nats_get hx
        have hil : i < tb.length := (List.getElem?_eq_some_iff.mp en).1
        refine ⟨rfl, ?_⟩
        refine ⟨_, rfl, d, rfl, .inl ⟨kvs, .inl (s2 _ _ h1)⟩, _, rfl, _, rfl, _, DGet.k (k := Sum.inl (n : Int)) (s2 _ _ h1), ?_⟩
        have hv : (valV kvs (Sum.inl (n : Int))).getD (.int (n : Int)) = .int ((mv start xs n : Nat) : Int) := by
          rw [m1 n]
          unfold mv
          split <;> rfl
        rw [hv]
        have hfin : (nats (moveT tb start xs))[i]? = some (.int ((mv start xs n : Nat) : Int)) := nats_get2 (by unfold moveT; rw [List.getElem?_map, en]; rfl)
        refine ⟨_, h2, ?_, sM s2 hD, ?_⟩
        · rw [List.length_take, nats_len, moveT_len]; exact sz_lt (by omega)
        · rw [upd_same, take_snoc hfin]
      · rintro H2 ⟨s2, h2⟩
        refine k H2 D (sT s1 s2) (sF s1 hD) ?_
        rw [h2]
        congr 2
        rw [List.take_of_length_le]
        rw [nats_len, nats_len, moveT_len]
        exact Nat.le_refl _
end

end K30

namespace K30
open PySem PySem.Spec PyProof.Rows L2
/-! ## W5: making layouts, counts, devices -/
open K30X
def Lay.Fit (L : Lay) : Prop := 16 + 2 * L.pay + (L.lastId + 7) / 8 ≤ L.bs
section
variable {P : Program} {w : World} {K : PySem.W.Frag} {mg : Str → Option Value} {base : Heap}
/-- all but x stays -/
def But (x : Addr) (H H' : Hp) : Prop := ∀ b o, b ≠ x → H b = some o → H' b = some o
theorem bR {x : Addr} {H : Hp} : But x H H := fun _ _ _ e => e
theorem bX {x : Addr} {H H' : Hp} {o : HO} (h : But x H H') : But x H (upd H' x o) := fun b u n e => by rw [upd_ne n]; exact h b u n e
theorem bN {x p : Addr} {H H' : Hp} {o : HO} (h : But x H H') (hp : H' p = none) : But x H (upd H' p o) := fun b u n e => uN (h b u n e) hp
def sp_Counts___init__ (K : PySem.W.Frag) : Sp := fun vs H Q _ => ∃ (x dx : Addr), vs = [.ref x] ∧ H x = some (.ins (CC K) dx []) ∧ ∀ H', But x H H' → H' x = some (.ins (CC K) dx (cntF 0 0 0 0 0 0 0)) → Q .non H'
theorem sc_Counts___init__ : FnScope ["self"] ["self"] (defScope s_Counts___init__) := ⟨rfl, rfl, rfl, by decide +kernel, rfl, by decide +kernel, by decide +kernel⟩
theorem mak_Counts___init__ (T : Txt K mg) (F : KD K mg "Counts" (CC K) "Counts.__init__" s_Counts___init__) : C8.Mak P w K mg base 1 "Counts" (CC K) (sp_Counts___init__ K) [] := by
  obtain ⟨f, fd, F, hM, hm⟩ := F
  refine ⟨f, fd, _, _, hM, F.ok sc_Counts___init__ (fun vs H Q E h => ?_) (fun cdv A outer s H vs Q E hr h => ?_), hm, F.bindsN (fun _ _ _ _ _ _ us hl => match us, hl with | [_], _ => rfl), .nil⟩
  · obtain ⟨_, _, rfl, _⟩ := h
    rfl
  · obtain ⟨x, dx, rfl, hx, k⟩ := h
    refine ⟨_, PSs.nox (pss_cons (ps_fld (pv 0) pe_int rfl)
      (pss_cons (ps_fld (pv 0) pe_int rfl)
      (pss_cons (ps_fld (pv 0) pe_int rfl)
      (pss_cons (ps_fld (pv 0) pe_int rfl)
      (pss_cons (ps_fld (pv 0) pe_int rfl)
      (pss_cons (ps_fld (pv 0) pe_int rfl)
      (pss_one (ps_fld (pv 0) pe_int rfl)))))))), ?_⟩
    refine ⟨_, rfl, x, _, dx, _, rfl, hx, T.cC, T.nC_commits, of_decide_eq_true rfl, ?_⟩
    refine ⟨_, rfl, x, _, dx, _, rfl, upd_same, T.cC, T.nC_commit_blocks, of_decide_eq_true rfl, ?_⟩
    refine ⟨_, rfl, x, _, dx, _, rfl, upd_same, T.cC, T.nC_moves, of_decide_eq_true rfl, ?_⟩
    refine ⟨_, rfl, x, _, dx, _, rfl, upd_same, T.cC, T.nC_move_blocks, of_decide_eq_true rfl, ?_⟩
    refine ⟨_, rfl, x, _, dx, _, rfl, upd_same, T.cC, T.nC_checkpoints, of_decide_eq_true rfl, ?_⟩
    refine ⟨_, rfl, x, _, dx, _, rfl, upd_same, T.cC, T.nC_checkpoint_blocks, of_decide_eq_true rfl, ?_⟩
    refine ⟨_, rfl, x, _, dx, _, rfl, upd_same, T.cC, T.nC_barriers, of_decide_eq_true rfl, ?_⟩
    exact k _ (bX (bX (bX (bX (bX (bX (bX bR))))))) upd_same
def sp_Layout___init__ (K : PySem.W.Frag) : Sp := fun vs H Q _ => ∃ (x dx : Addr) (L : Lay), vs = [.ref x, .int (L.segs : Int), .int (L.blks : Int), .int (L.bs : Int)] ∧ H x = some (.ins (CL K) dx []) ∧ L.Ok ∧ L.Fit ∧ ∀ H', But x H H' → H' x = some (.ins (CL K) dx (layF L)) → Q .non H'
theorem sc_Layout___init__ : FnScope ["self", "segments", "segment_blocks", "block_size", "numbers"] ["self", "segments", "segment_blocks", "block_size"] (defScope s_Layout___init__) := ⟨rfl, rfl, rfl, by decide +kernel, rfl, by decide +kernel, by decide +kernel⟩
theorem mak_Layout___init__ (T : Txt K mg) (F : KD K mg "Layout" (CL K) "Layout.__init__" s_Layout___init__) (c_parts_of : C8.Cal P w K mg base 1 "parts_of" (sp_parts_of K) []) : C8.Mak P w K mg base 2 "Layout" (CL K) (sp_Layout___init__ K) [] := by
  obtain ⟨f, fd, F, hM, hm⟩ := F
  refine ⟨f, fd, _, _, hM, F.ok sc_Layout___init__ (fun vs H Q E h => ?_) (fun cdv A outer s H vs Q E hr h => ?_), hm, F.bindsN (fun _ _ _ _ _ _ us hl => match us, hl with | [_, _, _, _], _ => rfl), .nil⟩
  · obtain ⟨_, _, _, rfl, _⟩ := h
    rfl
  · obtain ⟨x, dx, L, rfl, hx, O, F8, k⟩ := h
    have o1 := O.s4
    have o2 := O.s16
    have o3 := O.b16
    have o4 := O.b32
    obtain ⟨p1, p2, p3, p4, p5, p6⟩ := O.bnd
    have oz := O.z
    refine ⟨_, PSs.nox (pss_cons (ps_if (PW.pt (pw_or (pt_cmpR op_lt (pv 1) (pe_gi T.i_LEAST_SEGMENTS rfl) (nomark _)) (pw_or1 (pt_cmpR op_gt (pv 1) (pe_gi T.i_MOST_SEGMENTS rfl) (nomark _))))) (pss_one ps_never) pss_nil)
      (pss_cons (ps_if (PW.pt (pw_or (pt_cmpR op_lt (pv 2) (pe_gi T.i_LEAST_BLOCKS rfl) (nomark _)) (pw_or1 (pt_cmpR op_gt (pv 2) (pe_gi T.i_MOST_BLOCKS rfl) (nomark _))))) (pss_one ps_never) pss_nil)
      (pss_cons (ps_if (pt_cmpR op_notIn_seq (pv 3) (pe_tup (pa_cons pe_int (pa_cons pe_int (pa_cons pe_int pa_nil)))) (by rfl)) (pss_one ps_never) pss_nil)
      (pss_cons (ps_fld (pv 0) (pv 1) rfl)
      (pss_cons (ps_fld (pv 0) (pv 2) rfl)
      (pss_cons (ps_fld (pv 0) (pv 3) rfl)
      (pss_cons (ps_fld (pv 0) (pe_op op_sub (pv 2) pe_int) rfl)
      (pss_cons (ps_fld (pv 0) (pe_op op_mul (pe_op op_sub (pv 1) pe_int) (pe_fld (pv 0) rfl)) rfl)
      (pss_cons (ps_fld (pv 0) (pe_op op_add (pe_fld (pv 0) rfl) (pe_fld (pv 0) rfl)) rfl)
      (pss_cons (ps_fld (pv 0) (pe_op op_fdiv (pv 3) pe_int) rfl)
      (pss_cons (ps_if (pt_cmpR op_gt (pe_op op_add (pe_op op_add (pe_gi T.i_HEAD_OCTETS rfl) (pe_op op_mul pe_int (pe_fld (pv 0) rfl))) (C8.pe_c c_parts_of hr (by decide) (by rfl) (pa_cons (pe_fld (pv 0) rfl) (pa_cons pe_int pa_nil)))) (pv 3) (nomark _)) (pss_one ps_never) pss_nil)
      (pss_cons (ps_set (i := 4) sc_Layout___init__.nd rfl (Or.inl rfl) (pe_op op_add (pe_op op_add (pe_op op_add (pe_op op_mul (pe_op op_add (pe_gi T.i_SLOTS rfl) pe_int) (pe_fld (pv 0) rfl)) (pe_gi T.i_SLOTS rfl)) pe_int) (pv 1)))
      (pss_cons (ps_fld (pv 0) (C8.pe_c c_parts_of hr (by decide) (by rfl) (pa_cons (pe_op op_mul pe_int (pv 4)) (pa_cons (pv 3) pa_nil))) rfl)
      (pss_one (ps_fld (pv 0) (pe_op op_add (pe_op op_mul pe_int (pe_fld (pv 0) rfl)) (pe_op op_mul (pv 1) (pv 2))) rfl))))))))))))))), ?_⟩
    refine ⟨_, rfl, _, _, rfl, rfl, _, rfl, ?_⟩
    refine dF (by omega) ?_
    refine ⟨_, rfl, _, _, rfl, rfl, _, rfl, ?_⟩
    refine dF (by omega) ?_
    refine ⟨_, rfl, _, _, rfl, rfl, _, rfl, ?_⟩
    refine dF (by omega) ?_
    refine ⟨_, rfl, _, _, rfl, rfl, _, rfl, ?_⟩
    refine dF (by omega) ?_
    refine ⟨_, rfl, ⟨by show 3 ≤ sizeLine; decide, fun t0 ht0 => ?_⟩⟩
    have nx0 : x ≠ t0 := ne_of_none hx ht0
    refine ⟨t0, [.int 64, .int 128, .int 256], rfl, .inr (SqT.of upd_same), rfl, rfl, _, rfl, ?_⟩
    have ein : (if true = true then !inV (.int (L.bs : Int)) [.int 64, .int 128, .int 256] else inV (.int (L.bs : Int)) [.int 64, .int 128, .int 256]) = false := by
      rw [if_pos rfl]
      have := inV_nats (k := L.bs) (ks := [64, 128, 256])
      rw [show nats [64, 128, 256] = [V.int 64, V.int 128, V.int 256] from rfl] at this
      rw [this, decide_eq_true (by rcases oz with e | e | e <;> rw [e] <;> simp)]
      rfl
    refine bF ein ?_
    have hx0 : upd H t0 (.tup [.int 64, .int 128, .int 256]) x = some (.ins (CL K) dx []) := uN hx ht0
    refine ⟨_, rfl, _, rfl, x, _, dx, _, rfl, hx0, T.cL, T.nL_segments, of_decide_eq_true rfl, ?_⟩
    refine ⟨_, rfl, _, rfl, x, _, dx, _, rfl, upd_same, T.cL, T.nL_segment_blocks, of_decide_eq_true rfl, ?_⟩
    refine ⟨_, rfl, _, rfl, x, _, dx, _, rfl, upd_same, T.cL, T.nL_block_size, of_decide_eq_true rfl, ?_⟩
    have e1 : (L.blks : Int) - 1 = (L.pay : Int) := by unfold Lay.pay; omega
    refine ⟨_, rfl, _, _, rfl, rfl, _, rfl, x, _, dx, _, rfl, upd_same, T.cL, T.nL_payload, of_decide_eq_true rfl, ?_⟩
    have e2 : ((L.segs : Int) - 2) * ((L.blks : Int) - 1) = (L.lim : Int) := by
      rw [e1, show (L.segs : Int) - 2 = ((L.segs - 2 : Nat) : Int) by omega, ← Int.natCast_mul]; rfl
    refine ⟨_, rfl, _, _, rfl, rfl, _, rfl, x, _, dx, _, _, rfl, upd_same, T.cL, T.nL_payload, rfl, _, _, rfl, rfl, .inl ⟨by omega, by omega⟩, ?_⟩
    refine ⟨_, rfl, x, _, dx, _, rfl, upd_same, T.cL, T.nL_limit, of_decide_eq_true rfl, ?_⟩
    have e3 : (L.lim : Int) + (L.pay : Int) = (L.lastId : Int) := by unfold Lay.lastId; omega
    refine ⟨_, rfl, x, _, dx, _, _, rfl, upd_same, T.cL, T.nL_limit, rfl, _, rfl, x, _, dx, _, _, rfl, upd_same, T.cL, T.nL_payload, rfl, _, _, rfl, rfl, ?_⟩
    refine ⟨_, rfl, x, _, dx, _, rfl, upd_same, T.cL, T.nL_last_id, of_decide_eq_true rfl, ?_⟩
    refine ⟨_, rfl, _, _, rfl, rfl, ⟨by decide, by decide⟩, ?_⟩
    refine ⟨_, rfl, x, _, dx, _, rfl, upd_same, T.cL, T.nL_fan, of_decide_eq_true rfl, ?_⟩
    have eL : ((L.segs : Int) - 2) * ((L.blks : Int) - 1) + ((L.blks : Int) - 1) = (L.lastId : Int) := by rw [e2, e1, e3]
    have ef : (L.bs : Int) / 2 = (L.fan : Int) := rfl
    -- the look at the summary's size
    refine ⟨_, rfl, x, _, dx, _, _, rfl, upd_same, T.cL, T.nL_payload, rfl, _, _, rfl, rfl, .inl ⟨by decide, by decide⟩, _, _, rfl, rfl, ?_⟩
    refine ⟨_, rfl, x, _, dx, _, _, rfl, upd_same, T.cL, T.nL_last_id, rfl, ?_⟩
    refine ⟨L.lastId, 8, ?_, by omega, by omega, ?_⟩
    · show [V.int (((L.segs : Int) - 2) * ((L.blks : Int) - 1) + ((L.blks : Int) - 1)), V.int 8] = _
      rw [eL]; rfl
    refine ⟨_, _, rfl, rfl, _, rfl, _, _, rfl, rfl, _, rfl, ?_⟩
    have hfit : 16 + 2 * L.pay + (L.lastId + 7) / 8 ≤ L.bs := F8
    refine dF ?_ ?_
    · show ¬ ((L.bs : Int) < 16 + 2 * ((L.blks : Int) - 1) + (((L.lastId + 8 - 1) / 8 : Nat) : Int))
      rw [e1]; omega
    -- numbers
    refine ⟨_, _, rfl, rfl, _, rfl, x, _, dx, _, _, rfl, upd_same, T.cL, T.nL_last_id, rfl, _, _, rfl, rfl, .inl ⟨by decide, by decide⟩, _, _, rfl, rfl, _, _, rfl, rfl, _, rfl, _, _, rfl, rfl, ?_⟩
    -- region_blocks
    refine ⟨_, rfl, _, _, rfl, rfl, .inl ⟨by decide, by decide⟩, _, rfl, ?_⟩
    refine ⟨2 * L.nums, L.bs, ?_, by omega, by omega, ?_⟩
    · show [V.int (2 * ((3 + 1) * (((L.segs : Int) - 2) * ((L.blks : Int) - 1) + ((L.blks : Int) - 1)) + 3 + 3 + (L.segs : Int))), V.int (L.bs : Int)] = _
      rw [eL, show 2 * ((3 + 1) * (L.lastId : Int) + 3 + 3 + (L.segs : Int)) = ((2 * L.nums : Nat) : Int) by unfold Lay.nums; omega]
    refine ⟨_, rfl, x, _, dx, _, rfl, upd_same, T.cL, T.nL_region_blocks, of_decide_eq_true rfl, ?_⟩
    refine ⟨_, rfl, x, _, dx, _, _, rfl, upd_same, T.cL, T.nL_region_blocks, rfl, _, _, rfl, rfl, .inl ⟨by decide, by decide⟩, ?_⟩
    refine ⟨_, rfl, _, rfl, _, _, rfl, rfl, .inl ⟨by omega, by omega⟩, _, _, rfl, rfl, ?_⟩
    refine ⟨_, rfl, x, _, dx, _, rfl, upd_same, T.cL, T.nL_device_blocks, of_decide_eq_true rfl, ?_⟩
    refine k _ (bX (bX (bX (bX (bX (bX (bX (bX (bX (bN bR ht0)))))))))) ?_
    rw [upd_same]
    show some (HO.ins (CL K) dx [("segments", .int (L.segs : Int)), ("segment_blocks", .int (L.blks : Int)), ("block_size", .int (L.bs : Int)), ("payload", .int ((L.blks : Int) - 1)), ("limit", .int (((L.segs : Int) - 2) * ((L.blks : Int) - 1))), ("last_id", .int (((L.segs : Int) - 2) * ((L.blks : Int) - 1) + ((L.blks : Int) - 1))), ("fan", .int ((L.bs : Int) / 2)), ("region_blocks", .int (((2 * L.nums + L.bs - 1) / L.bs : Nat) : Int)), ("device_blocks", .int (2 * (((2 * L.nums + L.bs - 1) / L.bs : Nat) : Int) + (L.segs : Int) * (L.blks : Int)))]) = _
    have ed : 2 * (((2 * L.nums + L.bs - 1) / L.bs : Nat) : Int) + (L.segs : Int) * (L.blks : Int) = (L.db : Int) := by
      rw [← Int.natCast_mul]; unfold Lay.db Lay.rb; omega
    rw [eL, e2, e1, ed]
    rfl
end

end K30

namespace K30
open PySem PySem.Spec PyProof.Rows L2
/-! ## W6: devices -/
open K30X
section
variable {P : Program} {w : World} {K : PySem.W.Frag} {mg : Str → Option Value} {base : Heap}
/-- what __init__ leaves -/
structure DevNew (K : PySem.W.Frag) (H H' : Hp) (x dx lay su se wa : Addr) (l : List (Option Blk)) (vsu vse : List V) : Prop where
  b : But x H H'
  n1 : H su = Option.none
  n2 : H se = Option.none
  n3 : H wa = Option.none
  d12 : su ≠ se
  d13 : su ≠ wa
  d23 : se ≠ wa
  h0 : H' x = some (.ins (CD K) dx (devF lay su se wa .non false))
  h1 : H' su = some (.lst vsu)
  h2 : H' se = some (.lst vse)
  h3 : H' wa = some (.lst [])
  r1 : All2 (OBR H') l vsu
  r2 : All2 (OBR H') l vse
theorem DevNew.dev {H1 H H' : Hp} {x dx lay su se wa : Addr} {l : List (Option Blk)} {vsu vse : List V} (h : DevNew K H H' x dx lay su se wa l vsu vse) (s : Same H1 H) (hx : H1 x = Option.none) : DevO K H1 H' x lay (Dev.new l) :=
  ⟨⟨dx, su, se, wa, vsu, vse, []⟩, ⟨fun b o e => h.b b o (ne_of_none e hx) (s b o e), hx, sF s h.n1, sF s h.n2, sF s h.n3, h.d12, h.d13, h.d23, h.h0, h.h1, h.h2, h.h3, h.r1, h.r2, .nil⟩⟩
def sp_Device___init__ (K : PySem.W.Frag) : Sp := fun vs H Q _ => ∃ (x dx lay : Addr) (vb : V) (L : Lay) (l : List (Option Blk)), vs = [.ref x, .ref lay, vb] ∧ H x = some (.ins (CD K) dx []) ∧ LayAt K H lay L ∧ L.Ok ∧ l.length = L.db ∧
  ((vb = .non ∧ l = List.replicate L.db none) ∨ ∃ bl vs, vb = .ref bl ∧ H bl = some (.lst vs) ∧ All2 (OBR H) l vs) ∧ ∀ H' su se wa vsu vse, DevNew K H H' x dx lay su se wa l vsu vse → Q .non H'
/-- the fields, from the list of blocks on -/
theorem dev_init_end {H H1 : Hp} {x dx lay bl : Addr} {vs : List V} {l : List (Option Blk)} {Q : Hp → Prop} (T : Txt K mg) (s1 : Same H H1) (hx : H x = some (.ins (CD K) dx [])) (hb : H1 bl = some (.lst vs)) (r : All2 (OBR H1) l vs)
    (k : ∀ H' su se wa vsu vse, DevNew K H H' x dx lay su se wa l vsu vse → Q H') : ∀ su, upd H1 x (.ins (CD K) dx (putF "layout" (.ref lay) [])) su = Option.none → ∀ se, upd (upd (upd H1 x (.ins (CD K) dx (putF "layout" (.ref lay) []))) su (.lst vs)) x (.ins (CD K) dx (putF "sure" (.ref su) (putF "layout" (.ref lay) []))) se = Option.none →
    ∀ wa, upd (upd (upd (upd (upd H1 x (.ins (CD K) dx (putF "layout" (.ref lay) []))) su (.lst vs)) x (.ins (CD K) dx (putF "sure" (.ref su) (putF "layout" (.ref lay) [])))) se (.lst vs)) x (.ins (CD K) dx (putF "seen" (.ref se) (putF "sure" (.ref su) (putF "layout" (.ref lay) [])))) wa = Option.none →
    Q (upd (upd (upd (upd (upd (upd (upd (upd (upd H1 x (.ins (CD K) dx (putF "layout" (.ref lay) []))) su (.lst vs)) x (.ins (CD K) dx (putF "sure" (.ref su) (putF "layout" (.ref lay) [])))) se (.lst vs)) x (.ins (CD K) dx (putF "seen" (.ref se) (putF "sure" (.ref su) (putF "layout" (.ref lay) []))))) wa (.lst [])) x
      (.ins (CD K) dx (putF "waiting" (.ref wa) (putF "seen" (.ref se) (putF "sure" (.ref su) (putF "layout" (.ref lay) [])))))) x (.ins (CD K) dx (putF "fuse" .non (putF "waiting" (.ref wa) (putF "seen" (.ref se) (putF "sure" (.ref su) (putF "layout" (.ref lay) []))))))) x
      (.ins (CD K) dx (putF "dark" (.bl false) (putF "fuse" .non (putF "waiting" (.ref wa) (putF "seen" (.ref se) (putF "sure" (.ref su) (putF "layout" (.ref lay) [])))))))) := by
  intro su hsu se hse wa hwa
  have n1 : su ≠ x := fun e => by rw [e, upd_same] at hsu; cases hsu
  have n2 : se ≠ x := fun e => by rw [e, upd_same] at hse; cases hse
  have n3 : wa ≠ x := fun e => by rw [e, upd_same] at hwa; cases hwa
  have f1 : H1 su = none := by rw [upd_ne n1] at hsu; exact hsu
  have m1 : se ≠ su := fun e => by rw [e, upd_ne n1, upd_same] at hse; cases hse
  have f2 : H1 se = none := by rw [upd_ne n2, upd_ne m1, upd_ne n2] at hse; exact hse
  have m2 : wa ≠ se := fun e => by rw [e, upd_ne n2, upd_same] at hwa; cases hwa
  have m3 : wa ≠ su := fun e => by rw [e, upd_ne n1, upd_ne (Ne.symm m1), upd_ne n1, upd_same] at hwa; cases hwa
  have f3 : H1 wa = none := by rw [upd_ne n3, upd_ne m2, upd_ne n3, upd_ne m3, upd_ne n3] at hwa; exact hwa
  have tx : ∀ {G : Hp} {u : HO}, (∀ xs, H1 x ≠ some (.tup xs)) := fun {_} {_} xs e => by rw [s1 _ _ hx] at e; cases e
  have tk : TK H1 (upd (upd (upd (upd (upd (upd (upd (upd (upd H1 x (.ins (CD K) dx (putF "layout" (.ref lay) []))) su (.lst vs)) x (.ins (CD K) dx (putF "sure" (.ref su) (putF "layout" (.ref lay) [])))) se (.lst vs)) x (.ins (CD K) dx (putF "seen" (.ref se) (putF "sure" (.ref su) (putF "layout" (.ref lay) []))))) wa (.lst [])) x
      (.ins (CD K) dx (putF "waiting" (.ref wa) (putF "seen" (.ref se) (putF "sure" (.ref su) (putF "layout" (.ref lay) [])))))) x (.ins (CD K) dx (putF "fuse" .non (putF "waiting" (.ref wa) (putF "seen" (.ref se) (putF "sure" (.ref su) (putF "layout" (.ref lay) []))))))) x
      (.ins (CD K) dx (putF "dark" (.bl false) (putF "fuse" .non (putF "waiting" (.ref wa) (putF "seen" (.ref se) (putF "sure" (.ref su) (putF "layout" (.ref lay) [])))))))) := fun a xs e => by
    have a1 : a ≠ x := fun q => by rw [q, s1 _ _ hx] at e; cases e
    have a2 : a ≠ su := fun q => by rw [q, f1] at e; cases e
    have a3 : a ≠ se := fun q => by rw [q, f2] at e; cases e
    have a4 : a ≠ wa := fun q => by rw [q, f3] at e; cases e
    rw [upd_ne a1, upd_ne a1, upd_ne a1, upd_ne a4, upd_ne a1, upd_ne a3, upd_ne a1, upd_ne a2, upd_ne a1]; exact e
  refine k _ su se wa vs vs ⟨fun b o nb e => ?_, sF s1 f1, sF s1 f2, sF s1 f3, Ne.symm m1, Ne.symm m3, Ne.symm m2, ?_, ?_, ?_, ?_, r.mono fun _ _ z => z.tk tk, r.mono fun _ _ z => z.tk tk⟩
  · have e1 := s1 _ _ e
    rw [upd_ne nb, upd_ne nb, upd_ne nb, upd_ne (ne_of_none e1 f3), upd_ne nb, upd_ne (ne_of_none e1 f2), upd_ne nb, upd_ne (ne_of_none e1 f1), upd_ne nb]
    exact e1
  · rw [upd_same]; rfl
  · rw [upd_ne n1, upd_ne n1, upd_ne n1, upd_ne (Ne.symm m3), upd_ne n1, upd_ne (Ne.symm m1), upd_ne n1, upd_same]
  · rw [upd_ne n2, upd_ne n2, upd_ne n2, upd_ne (Ne.symm m2), upd_ne n2, upd_same]
  · rw [upd_ne n3, upd_ne n3, upd_ne n3, upd_same]
theorem sc_Device___init__ : FnScope ["self", "layout", "blocks"] ["self", "layout", "blocks"] (defScope s_Device___init__) := ⟨rfl, rfl, rfl, by decide +kernel, rfl, by decide +kernel, by decide +kernel⟩
theorem mk1_Device___init__ (T : Txt K mg) (F : KD1 K mg "Device" (CD K) "Device.__init__" s_Device___init__ [.non]) : C8.Mak P w K mg base 1 "Device" (CD K) (sp_Device___init__ K) [.non] := by
  obtain ⟨f, fd, F, hM, hm⟩ := F
  obtain ⟨ds, hds, hb⟩ := F.binds1 (ps := ["self", "layout", "blocks"]) 2 0 (by simp) rfl (fun T kV doc pm an cdv ct us its hu hi => match us, its, hu, hi with | [_, _], [_], _, _ => ⟨_, rfl, rfl⟩)
  refine ⟨f, fd, _, ds, hM, F.ok sc_Device___init__ (fun vs H Q E h => ?_) (fun cdv A outer s H vs Q E hr h => ?_), hm, hb, hds⟩
  · obtain ⟨_, _, _, _, _, _, rfl, _⟩ := h
    rfl
  · obtain ⟨x, dx, lay, vb, L, l, rfl, hx, ⟨dl, hl⟩, O, hlen, hc, k⟩ := h
    have hb := O.bnd
    refine ⟨_, PSs.nox (pss_cons (ps_if (pt_cmpR op_isN (pv 2) pe_non (nomark _)) (pss_one (ps_set (i := 2) sc_Device___init__.nd rfl (Or.inl rfl) (pe_op op_rep (pe_lst (pa_cons pe_non pa_nil)) (pe_fld (pv 1) rfl)))) pss_nil)
      (pss_cons (ps_fld (pv 0) (pv 1) rfl)
      (pss_cons (ps_fld (pv 0) (pe_callTy call_list_of (by rfl) T.b_list (by decide +kernel) (pa_cons (pv 2) pa_nil)) rfl)
      (pss_cons (ps_fld (pv 0) (pe_callTy call_list_of (by rfl) T.b_list (by decide +kernel) (pa_cons (pv 2) pa_nil)) rfl)
      (pss_cons (ps_fld (pv 0) (pe_lst pa_nil) rfl)
      (pss_cons (ps_fld (pv 0) pe_non rfl)
      (pss_one (ps_fld (pv 0) pe_bl rfl)))))))), ?_⟩
    refine ⟨_, rfl, rfl, _, rfl, ?_⟩
    rcases hc with ⟨rfl, rfl⟩ | ⟨bl, vs, rfl, hbl, rb⟩
    · refine bT rfl ?_
      refine ⟨by show 1 ≤ sizeLine; decide, fun p0 hp0 => ?_⟩
      refine ⟨_, rfl, lay, _, dl, _, _, rfl, uN hl hp0, T.cL, T.nL_device_blocks, rfl, ?_⟩
      refine ⟨p0, _, _, rfl, rfl, upd_same, by omega, by omega, sz_ok (by simp; omega), fun p hp => ?_⟩
      have np : p ≠ p0 := fun e => by rw [e, upd_same] at hp; cases hp
      have hp1 : H p = none := by rw [upd_ne np] at hp; exact hp
      have s1 : Same H (upd (upd H p0 (.lst [.non])) p (.lst (List.replicate ((L.db : Int)).toNat [V.non]).flatten)) := sN (sN (sR H) hp0) hp
      have ev : (List.replicate ((L.db : Int)).toNat [V.non]).flatten = List.replicate L.db .non := by simp
      have r1 : All2 (OBR (upd (upd H p0 (.lst [.non])) p (.lst (List.replicate ((L.db : Int)).toNat [V.non]).flatten))) (List.replicate L.db none) (List.replicate ((L.db : Int)).toNat [V.non]).flatten := by
        rw [ev]
        refine ⟨by simp, fun i a b h1 h2 => ?_⟩
        have e1 := List.eq_of_mem_replicate (List.mem_of_getElem? h1)
        have e2 := List.eq_of_mem_replicate (List.mem_of_getElem? h2)
        rw [e1, e2]; rfl
      refine ⟨_, rfl, _, rfl, x, _, dx, _, rfl, s1 _ _ hx, T.cD, T.nD_layout, of_decide_eq_true rfl, ?_⟩
      have hpx : p ≠ x := fun e => by rw [e, hx] at hp1; cases hp1
      have key := dev_init_end (lay := lay) (bl := p) (Q := fun H' => Q .non H') T s1 hx upd_same r1 k
      refine ⟨_, rfl, p, _, rfl, .inl (SqL.of (show upd _ x _ p = some (.lst _) from by rw [upd_ne hpx]; exact upd_same)), fun su hsu => ?_⟩
      have n1 : su ≠ x := fun e => by rw [e, upd_same] at hsu; cases hsu
      refine ⟨_, rfl, x, _, dx, _, rfl, (upd_ne (Ne.symm n1)).trans upd_same, T.cD, T.nD_sure, of_decide_eq_true rfl, ?_⟩
      have hps : p ≠ su := fun e => by rw [← e, upd_ne hpx, upd_same] at hsu; cases hsu
      have hp3 : upd (upd (upd (upd (upd H p0 (.lst [.non])) p (.lst (List.replicate ((L.db : Int)).toNat [V.non]).flatten)) x (.ins (CD K) dx (putF "layout" (.ref lay) []))) su (.lst (List.replicate ((L.db : Int)).toNat [V.non]).flatten)) x (.ins (CD K) dx (putF "sure" (.ref su) (putF "layout" (.ref lay) []))) p = some (.lst (List.replicate ((L.db : Int)).toNat [V.non]).flatten) := by
        rw [upd_ne hpx, upd_ne hps, upd_ne hpx]; exact upd_same
      refine ⟨_, rfl, p, _, rfl, .inl (SqL.of hp3), fun se hse => ?_⟩
      have n2 : se ≠ x := fun e => by rw [e, upd_same] at hse; cases hse
      refine ⟨_, rfl, x, _, dx, _, rfl, (upd_ne (Ne.symm n2)).trans upd_same, T.cD, T.nD_seen, of_decide_eq_true rfl, ?_⟩
      refine ⟨Nat.zero_le _, fun wa hwa => ?_⟩
      have n3 : wa ≠ x := fun e => by rw [e, upd_same] at hwa; cases hwa
      refine ⟨_, rfl, x, _, dx, _, rfl, (upd_ne (Ne.symm n3)).trans upd_same, T.cD, T.nD_waiting, of_decide_eq_true rfl, ?_⟩
      refine ⟨_, rfl, x, _, dx, _, rfl, upd_same, T.cD, T.nD_fuse, of_decide_eq_true rfl, ?_⟩
      refine ⟨_, rfl, x, _, dx, _, rfl, upd_same, T.cD, T.nD_dark, of_decide_eq_true rfl, ?_⟩
      exact key su hsu se hse wa hwa
    · refine bF rfl ?_
      refine ⟨_, rfl, _, rfl, x, _, dx, _, rfl, hx, T.cD, T.nD_layout, of_decide_eq_true rfl, ?_⟩
      have hpx : bl ≠ x := fun e => by rw [e, hx] at hbl; cases hbl
      have key := dev_init_end (lay := lay) (bl := bl) (Q := fun H' => Q .non H') T (sR H) hx hbl rb k
      have hb1 : upd H x (.ins (CD K) dx (putF "layout" (.ref lay) [])) bl = some (.lst vs) := by rw [upd_ne hpx]; exact hbl
      refine ⟨_, rfl, bl, _, rfl, .inl (SqL.of hb1), fun su hsu => ?_⟩
      have n1 : su ≠ x := fun e => by rw [e, upd_same] at hsu; cases hsu
      refine ⟨_, rfl, x, _, dx, _, rfl, (upd_ne (Ne.symm n1)).trans upd_same, T.cD, T.nD_sure, of_decide_eq_true rfl, ?_⟩
      have hps : bl ≠ su := fun e => by rw [← e, upd_ne hpx, hbl] at hsu; cases hsu
      have hb3 : upd (upd (upd H x (.ins (CD K) dx (putF "layout" (.ref lay) []))) su (.lst vs)) x (.ins (CD K) dx (putF "sure" (.ref su) (putF "layout" (.ref lay) []))) bl = some (.lst vs) := by
        rw [upd_ne hpx, upd_ne hps, upd_ne hpx]; exact hbl
      refine ⟨_, rfl, bl, _, rfl, .inl (SqL.of hb3), fun se hse => ?_⟩
      have n2 : se ≠ x := fun e => by rw [e, upd_same] at hse; cases hse
      refine ⟨_, rfl, x, _, dx, _, rfl, (upd_ne (Ne.symm n2)).trans upd_same, T.cD, T.nD_seen, of_decide_eq_true rfl, ?_⟩
      refine ⟨Nat.zero_le _, fun wa hwa => ?_⟩
      have n3 : wa ≠ x := fun e => by rw [e, upd_same] at hwa; cases hwa
      refine ⟨_, rfl, x, _, dx, _, rfl, (upd_ne (Ne.symm n3)).trans upd_same, T.cD, T.nD_waiting, of_decide_eq_true rfl, ?_⟩
      refine ⟨_, rfl, x, _, dx, _, rfl, upd_same, T.cD, T.nD_fuse, of_decide_eq_true rfl, ?_⟩
      refine ⟨_, rfl, x, _, dx, _, rfl, upd_same, T.cD, T.nD_dark, of_decide_eq_true rfl, ?_⟩
      exact key su hsu se hse wa hwa
theorem mk2_Device___init__ (T : Txt K mg) (F : KD1 K mg "Device" (CD K) "Device.__init__" s_Device___init__ [.non]) : C8.Mak P w K mg base 1 "Device" (CD K) (sp_Device___init__ K) [] := by
  obtain ⟨f, fd, F, hM, hm⟩ := F
  obtain ⟨ds, hds, hb⟩ := F.binds1 (ps := ["self", "layout", "blocks"]) 3 1 (by simp) rfl (fun T kV doc pm an cdv ct us its hu hi => match us, its, hu, hi with | [_, _, _], [_], _, _ => ⟨_, rfl, rfl⟩)
  refine ⟨f, fd, _, ds, hM, F.ok sc_Device___init__ (fun vs H Q E h => ?_) (fun cdv A outer s H vs Q E hr h => ?_), hm, hb, hds⟩
  · obtain ⟨_, _, _, _, _, _, rfl, _⟩ := h
    rfl
  · obtain ⟨x, dx, lay, vb, L, l, rfl, hx, ⟨dl, hl⟩, O, hlen, hc, k⟩ := h
    have hb := O.bnd
    refine ⟨_, PSs.nox (pss_cons (ps_if (pt_cmpR op_isN (pv 2) pe_non (nomark _)) (pss_one (ps_set (i := 2) sc_Device___init__.nd rfl (Or.inl rfl) (pe_op op_rep (pe_lst (pa_cons pe_non pa_nil)) (pe_fld (pv 1) rfl)))) pss_nil)
      (pss_cons (ps_fld (pv 0) (pv 1) rfl)
      (pss_cons (ps_fld (pv 0) (pe_callTy call_list_of (by rfl) T.b_list (by decide +kernel) (pa_cons (pv 2) pa_nil)) rfl)
      (pss_cons (ps_fld (pv 0) (pe_callTy call_list_of (by rfl) T.b_list (by decide +kernel) (pa_cons (pv 2) pa_nil)) rfl)
      (pss_cons (ps_fld (pv 0) (pe_lst pa_nil) rfl)
      (pss_cons (ps_fld (pv 0) pe_non rfl)
      (pss_one (ps_fld (pv 0) pe_bl rfl)))))))), ?_⟩
    refine ⟨_, rfl, rfl, _, rfl, ?_⟩
    rcases hc with ⟨rfl, rfl⟩ | ⟨bl, vs, rfl, hbl, rb⟩
    · refine bT rfl ?_
      refine ⟨by show 1 ≤ sizeLine; decide, fun p0 hp0 => ?_⟩
      refine ⟨_, rfl, lay, _, dl, _, _, rfl, uN hl hp0, T.cL, T.nL_device_blocks, rfl, ?_⟩
      refine ⟨p0, _, _, rfl, rfl, upd_same, by omega, by omega, sz_ok (by simp; omega), fun p hp => ?_⟩
      have np : p ≠ p0 := fun e => by rw [e, upd_same] at hp; cases hp
      have hp1 : H p = none := by rw [upd_ne np] at hp; exact hp
      have s1 : Same H (upd (upd H p0 (.lst [.non])) p (.lst (List.replicate ((L.db : Int)).toNat [V.non]).flatten)) := sN (sN (sR H) hp0) hp
      have ev : (List.replicate ((L.db : Int)).toNat [V.non]).flatten = List.replicate L.db .non := by simp
      have r1 : All2 (OBR (upd (upd H p0 (.lst [.non])) p (.lst (List.replicate ((L.db : Int)).toNat [V.non]).flatten))) (List.replicate L.db none) (List.replicate ((L.db : Int)).toNat [V.non]).flatten := by
        rw [ev]
        refine ⟨by simp, fun i a b h1 h2 => ?_⟩
        have e1 := List.eq_of_mem_replicate (List.mem_of_getElem? h1)
        have e2 := List.eq_of_mem_replicate (List.mem_of_getElem? h2)
        rw [e1, e2]; rfl
      refine ⟨_, rfl, _, rfl, x, _, dx, _, rfl, s1 _ _ hx, T.cD, T.nD_layout, of_decide_eq_true rfl, ?_⟩
      have hpx : p ≠ x := fun e => by rw [e, hx] at hp1; cases hp1
      have key := dev_init_end (lay := lay) (bl := p) (Q := fun H' => Q .non H') T s1 hx upd_same r1 k
      refine ⟨_, rfl, p, _, rfl, .inl (SqL.of (show upd _ x _ p = some (.lst _) from by rw [upd_ne hpx]; exact upd_same)), fun su hsu => ?_⟩
      have n1 : su ≠ x := fun e => by rw [e, upd_same] at hsu; cases hsu
      refine ⟨_, rfl, x, _, dx, _, rfl, (upd_ne (Ne.symm n1)).trans upd_same, T.cD, T.nD_sure, of_decide_eq_true rfl, ?_⟩
      have hps : p ≠ su := fun e => by rw [← e, upd_ne hpx, upd_same] at hsu; cases hsu
      have hp3 : upd (upd (upd (upd (upd H p0 (.lst [.non])) p (.lst (List.replicate ((L.db : Int)).toNat [V.non]).flatten)) x (.ins (CD K) dx (putF "layout" (.ref lay) []))) su (.lst (List.replicate ((L.db : Int)).toNat [V.non]).flatten)) x (.ins (CD K) dx (putF "sure" (.ref su) (putF "layout" (.ref lay) []))) p = some (.lst (List.replicate ((L.db : Int)).toNat [V.non]).flatten) := by
        rw [upd_ne hpx, upd_ne hps, upd_ne hpx]; exact upd_same
      refine ⟨_, rfl, p, _, rfl, .inl (SqL.of hp3), fun se hse => ?_⟩
      have n2 : se ≠ x := fun e => by rw [e, upd_same] at hse; cases hse
      refine ⟨_, rfl, x, _, dx, _, rfl, (upd_ne (Ne.symm n2)).trans upd_same, T.cD, T.nD_seen, of_decide_eq_true rfl, ?_⟩
      refine ⟨Nat.zero_le _, fun wa hwa => ?_⟩
      have n3 : wa ≠ x := fun e => by rw [e, upd_same] at hwa; cases hwa
      refine ⟨_, rfl, x, _, dx, _, rfl, (upd_ne (Ne.symm n3)).trans upd_same, T.cD, T.nD_waiting, of_decide_eq_true rfl, ?_⟩
      refine ⟨_, rfl, x, _, dx, _, rfl, upd_same, T.cD, T.nD_fuse, of_decide_eq_true rfl, ?_⟩
      refine ⟨_, rfl, x, _, dx, _, rfl, upd_same, T.cD, T.nD_dark, of_decide_eq_true rfl, ?_⟩
      exact key su hsu se hse wa hwa
    · refine bF rfl ?_
      refine ⟨_, rfl, _, rfl, x, _, dx, _, rfl, hx, T.cD, T.nD_layout, of_decide_eq_true rfl, ?_⟩
      have hpx : bl ≠ x := fun e => by rw [e, hx] at hbl; cases hbl
      have key := dev_init_end (lay := lay) (bl := bl) (Q := fun H' => Q .non H') T (sR H) hx hbl rb k
      have hb1 : upd H x (.ins (CD K) dx (putF "layout" (.ref lay) [])) bl = some (.lst vs) := by rw [upd_ne hpx]; exact hbl
      refine ⟨_, rfl, bl, _, rfl, .inl (SqL.of hb1), fun su hsu => ?_⟩
      have n1 : su ≠ x := fun e => by rw [e, upd_same] at hsu; cases hsu
      refine ⟨_, rfl, x, _, dx, _, rfl, (upd_ne (Ne.symm n1)).trans upd_same, T.cD, T.nD_sure, of_decide_eq_true rfl, ?_⟩
      have hps : bl ≠ su := fun e => by rw [← e, upd_ne hpx, hbl] at hsu; cases hsu
      have hb3 : upd (upd (upd H x (.ins (CD K) dx (putF "layout" (.ref lay) []))) su (.lst vs)) x (.ins (CD K) dx (putF "sure" (.ref su) (putF "layout" (.ref lay) []))) bl = some (.lst vs) := by
        rw [upd_ne hpx, upd_ne hps, upd_ne hpx]; exact hbl
      refine ⟨_, rfl, bl, _, rfl, .inl (SqL.of hb3), fun se hse => ?_⟩
      have n2 : se ≠ x := fun e => by rw [e, upd_same] at hse; cases hse
      refine ⟨_, rfl, x, _, dx, _, rfl, (upd_ne (Ne.symm n2)).trans upd_same, T.cD, T.nD_seen, of_decide_eq_true rfl, ?_⟩
      refine ⟨Nat.zero_le _, fun wa hwa => ?_⟩
      have n3 : wa ≠ x := fun e => by rw [e, upd_same] at hwa; cases hwa
      refine ⟨_, rfl, x, _, dx, _, rfl, (upd_ne (Ne.symm n3)).trans upd_same, T.cD, T.nD_waiting, of_decide_eq_true rfl, ?_⟩
      refine ⟨_, rfl, x, _, dx, _, rfl, upd_same, T.cD, T.nD_fuse, of_decide_eq_true rfl, ?_⟩
      refine ⟨_, rfl, x, _, dx, _, rfl, upd_same, T.cD, T.nD_dark, of_decide_eq_true rfl, ?_⟩
      exact key su hsu se hse wa hwa
end

end K30

namespace K30
open PySem PySem.Spec PyProof.Rows L2
/-! ## W7: devices: the commands -/
open K30X
section
variable {P : Program} {w : World} {K : PySem.W.Frag} {mg : Str → Option Value} {base : Heap}
section
variable {H0 H H' : Hp} {dv lay : Addr} {d : Dev} {p : DevP}
theorem DevQ.same (h : DevQ K H0 H dv lay d p) (s : Same H H') : DevQ K H0 H' dv lay d p :=
  h.side (fun b o e => s _ _ (h.s b o e)) h.n0 h.n1 h.n2 h.n3 (TK.of s) (by rw [s _ _ h.h0, h.h0]) (by rw [s _ _ h.h1, h.h1]) (by rw [s _ _ h.h2, h.h2]) (by rw [s _ _ h.h3, h.h3])
theorem DevQ.e1 (h : DevQ K H0 H dv lay d p) : p.su ≠ dv := fun e => by have q := h.h1; rw [e, h.h0] at q; cases q
theorem DevQ.e2 (h : DevQ K H0 H dv lay d p) : p.se ≠ dv := fun e => by have q := h.h2; rw [e, h.h0] at q; cases q
theorem DevQ.e3 (h : DevQ K H0 H dv lay d p) : p.wa ≠ dv := fun e => by have q := h.h3; rw [e, h.h0] at q; cases q
theorem DevQ.fld (h : DevQ K H0 H dv lay d p) (f : Option Nat) (b : Bool) : DevQ K H0 (upd H dv (.ins (CD K) p.dx (devF lay p.su p.se p.wa (fuV f) b))) dv lay { d with fuse := f, dark := b } p := by
  have tk : TK H (upd H dv (.ins (CD K) p.dx (devF lay p.su p.se p.wa (fuV f) b))) := TK.upd fun xs q => by rw [h.h0] at q; cases q
  exact ⟨sM h.s h.n0, h.n0, h.n1, h.n2, h.n3, h.d12, h.d13, h.d23, upd_same, by rw [upd_ne h.e1]; exact h.h1, by rw [upd_ne h.e2]; exact h.h2, by rw [upd_ne h.e3]; exact h.h3, h.r1.mono fun _ _ z => z.tk tk, h.r2.mono fun _ _ z => z.tk tk, h.r3.mono fun _ _ z => z.tk tk⟩
theorem DevQ.setSeen (h : DevQ K H0 H dv lay d p) {a : Nat} {b : Blk} {v : V} (r : OBR H (some b) v) : DevQ K H0 (upd H p.se (.lst (p.vse.set a v))) dv lay { d with seen := d.seen.set a (some b) } { p with vse := p.vse.set a v } := by
  have tk : TK H (upd H p.se (.lst (p.vse.set a v))) := TK.upd fun xs q => by rw [h.h2] at q; cases q
  exact ⟨sM h.s h.n2, h.n0, h.n1, h.n2, h.n3, h.d12, h.d13, h.d23, by rw [upd_ne (Ne.symm h.e2)]; exact h.h0, by rw [upd_ne h.d12]; exact h.h1, upd_same, by rw [upd_ne (Ne.symm h.d23)]; exact h.h3, h.r1.mono fun _ _ z => z.tk tk, (h.r2.mono fun _ _ z => z.tk tk).set (r.tk tk), h.r3.mono fun _ _ z => z.tk tk⟩
theorem DevQ.setSure (h : DevQ K H0 H dv lay d p) {a : Nat} {b : Blk} {v : V} (r : OBR H (some b) v) : DevQ K H0 (upd H p.su (.lst (p.vsu.set a v))) dv lay { d with sure := d.sure.set a (some b) } { p with vsu := p.vsu.set a v } := by
  have tk : TK H (upd H p.su (.lst (p.vsu.set a v))) := TK.upd fun xs q => by rw [h.h1] at q; cases q
  exact ⟨sM h.s h.n1, h.n0, h.n1, h.n2, h.n3, h.d12, h.d13, h.d23, by rw [upd_ne (Ne.symm h.e1)]; exact h.h0, upd_same, by rw [upd_ne (Ne.symm h.d12)]; exact h.h2, by rw [upd_ne (Ne.symm h.d13)]; exact h.h3, (h.r1.mono fun _ _ z => z.tk tk).set (r.tk tk), h.r2.mono fun _ _ z => z.tk tk, h.r3.mono fun _ _ z => z.tk tk⟩
theorem DevQ.push (h : DevQ K H0 H dv lay d p) {a : Nat} {b : Blk} {t t0 : Addr} (r : BlkR H b t) (ht : H t0 = none) : DevQ K H0 (upd (upd H t0 (.tup [.int (a : Int), .ref t])) p.wa (.lst (p.vwa ++ [.ref t0]))) dv lay { d with waiting := d.waiting ++ [(a, b)] } { p with vwa := p.vwa ++ [.ref t0] } := by
  have s0 : Same H (upd H t0 (.tup [.int (a : Int), .ref t])) := sN (sR H) ht
  have h' := h.same s0
  have tk : TK (upd H t0 (.tup [.int (a : Int), .ref t])) (upd (upd H t0 (.tup [.int (a : Int), .ref t])) p.wa (.lst (p.vwa ++ [.ref t0]))) := TK.upd fun xs q => by rw [h'.h3] at q; cases q
  exact ⟨sM h'.s h.n3, h.n0, h.n1, h.n2, h.n3, h.d12, h.d13, h.d23, by rw [upd_ne (Ne.symm h.e3)]; exact h'.h0, by rw [upd_ne h.d13]; exact h'.h1, by rw [upd_ne h.d23]; exact h'.h2, upd_same, h'.r1.mono fun _ _ z => z.tk tk, h'.r2.mono fun _ _ z => z.tk tk,
    (h'.r3.mono fun _ _ z => z.tk tk).snoc ⟨t0, t, rfl, tk _ _ upd_same, (r.tk (TK.of s0)).tk tk⟩⟩
/-- a new list for what waits -/
theorem DevQ.fresh (h : DevQ K H0 H dv lay d p) {q : Addr} (hq : H q = none) : DevQ K H0 (upd (upd H q (.lst [])) dv (.ins (CD K) p.dx (devF lay p.su p.se q (fuV d.fuse) d.dark))) dv lay { d with waiting := [] } { p with wa := q, vwa := [] } := by
  have s0 : Same H (upd H q (.lst [])) := sN (sR H) hq
  have h' := h.same s0
  have q0 : dv ≠ q := ne_of_none h.h0 hq
  have q1 : p.su ≠ q := ne_of_none h.h1 hq
  have q2 : p.se ≠ q := ne_of_none h.h2 hq
  have tk : TK (upd H q (.lst [])) (upd (upd H q (.lst [])) dv (.ins (CD K) p.dx (devF lay p.su p.se q (fuV d.fuse) d.dark))) := TK.upd fun xs z => by rw [h'.h0] at z; cases z
  exact ⟨sM h'.s h.n0, h.n0, h.n1, h.n2, sF h.s hq, h.d12, q1, q2, upd_same, by rw [upd_ne h.e1]; exact h'.h1, by rw [upd_ne h.e2]; exact h'.h2, by rw [upd_ne (Ne.symm q0)]; exact upd_same, h'.r1.mono fun _ _ z => z.tk tk, h'.r2.mono fun _ _ z => z.tk tk, .nil⟩
end
theorem tick_n {d : Dev} (e : d.fuse = none) : d.tick = d := by unfold Dev.tick; rw [e]
theorem tick_k {d : Dev} (e : d.dark = true) : d.tick = d := by
  unfold Dev.tick
  split
  · rfl
  · rw [if_pos e]
theorem tick_0 {d : Dev} (e : d.fuse = some 0) (k : d.dark = false) : d.tick = { d with dark := true } := by unfold Dev.tick; rw [e]; simp [k]
theorem tick_S {d : Dev} {n : Nat} (e : d.fuse = some (n + 1)) (k : d.dark = false) : d.tick = { d with fuse := some n } := by unfold Dev.tick; rw [e]; simp [k]
def sp_Device__count_command (K : PySem.W.Frag) : Sp := fun vs H Q _ => ∃ (dv lay : Addr) (H0 : Hp) (d : Dev), vs = [.ref dv] ∧ DevO K H0 H dv lay d ∧ ∀ H', DevO K H0 H' dv lay d.tick → Q .non H'
theorem sc_Device__count_command : FnScope ["self"] ["self"] (defScope s_Device__count_command) := ⟨rfl, rfl, rfl, by decide +kernel, rfl, by decide +kernel, by decide +kernel⟩
theorem met_Device__count_command (T : Txt K mg) (F : MD K (CD K) "_count_command" "Device._count_command" s_Device__count_command) : C8.Met P w K mg base 1 (CD K) "_count_command" (sp_Device__count_command K) [] := by
  obtain ⟨f, fd, F, hm⟩ := F
  refine ⟨f, fd, _, _, T.cD, hm, F.ok sc_Device__count_command (fun vs H Q E h => ?_) (fun cdv A outer s H vs Q E hr h => ?_), F.bindsN (fun _ _ _ _ _ _ us hl => match us, hl with | [_], _ => rfl), .nil⟩
  · obtain ⟨_, _, _, _, rfl, _⟩ := h
    rfl
  · obtain ⟨dv, lay, H0, d, rfl, ⟨p, hd⟩, k⟩ := h
    have h0 := hd.h0
    refine ⟨_, PSs.nox (pss_cons (ps_if (PW.pt (pw_or (pt_cmpR op_isN (pe_fld (pv 0) rfl) pe_non (nomark _)) (pw_or1 (pt_val (pe_fld (pv 0) rfl))))) (pss_one ps_retN) pss_nil)
      (pss_one (ps_if (pt_cmpR op_eq (pe_fld (pv 0) rfl) pe_int (nomark _)) (pss_one (ps_fld (pv 0) pe_bl rfl)) (pss_one (ps_fld (pv 0) (pe_op op_sub (pe_fld (pv 0) rfl) pe_int) rfl))))), ?_⟩
    refine ⟨_, rfl, dv, _, p.dx, _, _, rfl, h0, T.cD, T.nD_fuse, rfl, rfl, _, rfl, ?_⟩
    cases ef : d.fuse with
    | none =>
      rw [tick_n ef] at k
      refine dT rfl ?_
      refine iteT ?_
      exact k H ⟨p, hd⟩
    | some n =>
      rw [ef] at h0
      refine dF (by intro q; cases q) ?_
      refine ⟨_, rfl, dv, _, p.dx, _, _, rfl, h0, T.cD, T.nD_dark, rfl, _, rfl, ?_⟩
      cases ek : d.dark with
      | true =>
        rw [tick_k ek] at k
        exact iteT (k H ⟨p, hd⟩)
      | false =>
        refine iteF ?_
        refine ⟨_, rfl, dv, _, p.dx, _, _, rfl, h0, T.cD, T.nD_fuse, rfl, rfl, _, rfl, ?_⟩
        cases n with
        | zero =>
          rw [tick_0 ef ek] at k
          refine dT rfl ?_
          refine ⟨_, rfl, dv, _, p.dx, _, rfl, h0, T.cD, T.nD_dark, of_decide_eq_true rfl, ?_⟩
          have q := hd.fld (some 0) true
          have e2 : ({ d with fuse := some 0, dark := true } : Dev) = { d with dark := true } := by rw [← ef]
          rw [e2] at q
          exact k _ ⟨p, q⟩
        | succ n =>
          rw [tick_S ef ek] at k
          refine dF (by intro q; injection q; omega) ?_
          refine ⟨_, rfl, dv, _, p.dx, _, _, rfl, h0, T.cD, T.nD_fuse, rfl, _, _, rfl, rfl, _, rfl, dv, _, p.dx, _, rfl, h0, T.cD, T.nD_fuse, of_decide_eq_true rfl, ?_⟩
          have q := hd.fld (some n) d.dark
          refine k _ ⟨p, ?_⟩
          have e3 : ((n + 1 : Nat) : Int) - 1 = (n : Int) := by omega
          show DevQ K H0 (upd H dv (.ins (CD K) p.dx (putF "fuse" (V.int (((n + 1 : Nat) : Int) - 1)) (devF lay p.su p.se p.wa (fuV (some (n + 1))) d.dark)))) _ _ _ _
          rw [e3]
          exact q
def sp_Device_was_cut (K : PySem.W.Frag) : Sp := fun vs H Q _ => ∃ (dv lay : Addr) (H0 : Hp) (d : Dev), vs = [.ref dv] ∧ DevO K H0 H dv lay d ∧ Q (.bl d.dark) H
theorem sc_Device_was_cut : FnScope ["self"] ["self"] (defScope s_Device_was_cut) := ⟨rfl, rfl, rfl, by decide +kernel, rfl, by decide +kernel, by decide +kernel⟩
theorem met_Device_was_cut (T : Txt K mg) (F : MD K (CD K) "was_cut" "Device.was_cut" s_Device_was_cut) : C8.Met P w K mg base 1 (CD K) "was_cut" (sp_Device_was_cut K) [] := by
  obtain ⟨f, fd, F, hm⟩ := F
  refine ⟨f, fd, _, _, T.cD, hm, F.ok sc_Device_was_cut (fun vs H Q E h => ?_) (fun cdv A outer s H vs Q E hr h => ?_), F.bindsN (fun _ _ _ _ _ _ us hl => match us, hl with | [_], _ => rfl), .nil⟩
  · obtain ⟨_, _, _, _, rfl, _⟩ := h
    rfl
  · obtain ⟨dv, lay, H0, d, rfl, ⟨p, hd⟩, k⟩ := h
    refine ⟨_, PSs.nox (pss_one (ps_ret (pe_fld (pv 0) rfl))), ?_⟩
    exact ⟨_, rfl, dv, _, p.dx, _, _, rfl, hd.h0, T.cD, T.nD_dark, rfl, k⟩
def sp_Device_pending (K : PySem.W.Frag) : Sp := fun vs H Q _ => ∃ (dv lay : Addr) (H0 : Hp) (d : Dev), vs = [.ref dv] ∧ DevO K H0 H dv lay d ∧ Q (.int (d.waiting.length : Int)) H
theorem sc_Device_pending : FnScope ["self"] ["self"] (defScope s_Device_pending) := ⟨rfl, rfl, rfl, by decide +kernel, rfl, by decide +kernel, by decide +kernel⟩
theorem met_Device_pending (T : Txt K mg) (F : MD K (CD K) "pending" "Device.pending" s_Device_pending) : C8.Met P w K mg base 1 (CD K) "pending" (sp_Device_pending K) [] := by
  obtain ⟨f, fd, F, hm⟩ := F
  refine ⟨f, fd, _, _, T.cD, hm, F.ok sc_Device_pending (fun vs H Q E h => ?_) (fun cdv A outer s H vs Q E hr h => ?_), F.bindsN (fun _ _ _ _ _ _ us hl => match us, hl with | [_], _ => rfl), .nil⟩
  · obtain ⟨_, _, _, _, rfl, _⟩ := h
    rfl
  · obtain ⟨dv, lay, H0, d, rfl, ⟨p, hd⟩, k⟩ := h
    refine ⟨_, PSs.nox (pss_one (ps_ret (pe_callB call_len_seq (by rfl) T.b_len PySem.boot_len (pa_cons (pe_fld (pv 0) rfl) pa_nil)))), ?_⟩
    refine ⟨_, rfl, dv, _, p.dx, _, _, rfl, hd.h0, T.cD, T.nD_waiting, rfl, p.wa, _, rfl, .inl (SqL.of hd.h3), ?_⟩
    rw [← hd.r3.1]; exact k
def sp_Device_cut_after (K : PySem.W.Frag) : Sp := fun vs H Q _ => ∃ (dv lay : Addr) (H0 : Hp) (d : Dev) (n : Nat), vs = [.ref dv, .int (n : Int)] ∧ DevO K H0 H dv lay d ∧ ∀ H', DevO K H0 H' dv lay (d.cutAfter n) → Q .non H'
theorem sc_Device_cut_after : FnScope ["self", "count"] ["self", "count"] (defScope s_Device_cut_after) := ⟨rfl, rfl, rfl, by decide +kernel, rfl, by decide +kernel, by decide +kernel⟩
theorem met_Device_cut_after (T : Txt K mg) (F : MD K (CD K) "cut_after" "Device.cut_after" s_Device_cut_after) : C8.Met P w K mg base 1 (CD K) "cut_after" (sp_Device_cut_after K) [] := by
  obtain ⟨f, fd, F, hm⟩ := F
  refine ⟨f, fd, _, _, T.cD, hm, F.ok sc_Device_cut_after (fun vs H Q E h => ?_) (fun cdv A outer s H vs Q E hr h => ?_), F.bindsN (fun _ _ _ _ _ _ us hl => match us, hl with | [_, _], _ => rfl), .nil⟩
  · obtain ⟨_, _, _, _, _, rfl, _⟩ := h
    rfl
  · obtain ⟨dv, lay, H0, d, n, rfl, ⟨p, hd⟩, k⟩ := h
    unfold Dev.cutAfter at k
    refine ⟨_, PSs.nox (pss_one (ps_if (pt_not (pt_val (pe_fld (pv 0) rfl))) (pss_one (ps_fld (pv 0) (pv 1) rfl)) pss_nil)), ?_⟩
    refine ⟨_, rfl, dv, _, p.dx, _, _, rfl, hd.h0, T.cD, T.nD_dark, rfl, _, rfl, ?_⟩
    cases ek : d.dark with
    | true =>
      rw [if_pos ek] at k
      exact iteF (k H ⟨p, hd⟩)
    | false =>
      rw [if_neg (by rw [ek]; exact Bool.false_ne_true)] at k
      refine iteT ?_
      refine ⟨_, rfl, _, rfl, dv, _, p.dx, _, rfl, hd.h0, T.cD, T.nD_fuse, of_decide_eq_true rfl, ?_⟩
      exact k _ ⟨p, hd.fld (some n) d.dark⟩
def sp_Device_read (K : PySem.W.Frag) : Sp := fun vs H Q _ => ∃ (dv lay : Addr) (H0 : Hp) (d : Dev) (a : Nat), vs = [.ref dv, .int (a : Int)] ∧ DevO K H0 H dv lay d ∧ ∀ v, OBR H (rdl d.seen a) v → Q v H
theorem sc_Device_read : FnScope ["self", "address"] ["self", "address"] (defScope s_Device_read) := ⟨rfl, rfl, rfl, by decide +kernel, rfl, by decide +kernel, by decide +kernel⟩
theorem met_Device_read (T : Txt K mg) (F : MD K (CD K) "read" "Device.read" s_Device_read) : C8.Met P w K mg base 1 (CD K) "read" (sp_Device_read K) [] := by
  obtain ⟨f, fd, F, hm⟩ := F
  refine ⟨f, fd, _, _, T.cD, hm, F.ok sc_Device_read (fun vs H Q E h => ?_) (fun cdv A outer s H vs Q E hr h => ?_), F.bindsN (fun _ _ _ _ _ _ us hl => match us, hl with | [_, _], _ => rfl), .nil⟩
  · obtain ⟨_, _, _, _, _, rfl, _⟩ := h
    rfl
  · obtain ⟨dv, lay, H0, d, a, rfl, ⟨p, hd⟩, k⟩ := h
    refine ⟨_, PSs.nox (pss_cons (ps_if (PW.pt (pw_or (pt_cmpR op_lt (pv 1) pe_int (nomark _)) (pw_or1 (pt_cmpR op_ge (pv 1) (pe_callB call_len_seq (by rfl) T.b_len PySem.boot_len (pa_cons (pe_fld (pv 0) rfl) pa_nil)) (nomark _))))) (pss_one (ps_ret pe_non)) pss_nil)
      (pss_one (ps_ret (pe_ix ix_list (pe_fld (pv 0) rfl) (pv 1) (fun _ _ => rfl))))), ?_⟩
    refine ⟨_, rfl, _, _, rfl, rfl, _, rfl, ?_⟩
    refine dF (by omega) ?_
    refine ⟨_, rfl, _, rfl, dv, _, p.dx, _, _, rfl, hd.h0, T.cD, T.nD_seen, rfl, p.se, _, rfl, .inl (SqL.of hd.h2), _, _, rfl, rfl, _, rfl, ?_⟩
    by_cases c : (a : Int) ≥ (p.vse.length : Int)
    · refine dT c ?_
      refine k _ ?_
      have : rdl d.seen a = none := by
        unfold rdl
        rw [List.getD, List.getElem?_eq_none (by rw [hd.r2.1]; omega)]; rfl
      rw [this]; rfl
    · have hl : a < p.vse.length := by omega
      refine dF c ?_
      refine ⟨_, rfl, dv, _, p.dx, _, _, rfl, hd.h0, T.cD, T.nD_seen, rfl, _, rfl, p.se, _, _, _, rfl, rfl, SqL.of hd.h2, atI_nat (j := a) (List.getElem?_eq_getElem hl), ?_⟩
      refine k _ ?_
      have hl' : a < d.seen.length := by rw [hd.r2.1]; exact hl
      have : rdl d.seen a = d.seen[a] := by
        unfold rdl
        rw [List.getD, List.getElem?_eq_getElem hl']; rfl
      rw [this]
      exact hd.r2.2 a _ _ (List.getElem?_eq_getElem hl') (List.getElem?_eq_getElem hl)
theorem tick_len (d : Dev) : d.tick.seen.length = d.seen.length := by rw [tick_seen]
def sp_Device_write (K : PySem.W.Frag) : Sp := fun vs H Q _ => ∃ (dv lay : Addr) (H0 : Hp) (d : Dev) (a : Nat) (b : Blk) (t : Addr), vs = [.ref dv, .int (a : Int), .ref t] ∧ DevO K H0 H dv lay d ∧ a < d.seen.length ∧ (d.dark = false → d.waiting.length < 90000) ∧ H0 t ≠ none ∧ BlkR H0 b t ∧ ∀ H', DevO K H0 H' dv lay (d.write a b) → Q .non H'
theorem sc_Device_write : FnScope ["self", "address", "block"] ["self", "address", "block"] (defScope s_Device_write) := ⟨rfl, rfl, rfl, by decide +kernel, rfl, by decide +kernel, by decide +kernel⟩
theorem met_Device_write (T : Txt K mg) (F : MD K (CD K) "write" "Device.write" s_Device_write) (c_Device__count_command : C8.Met P w K mg base 1 (CD K) "_count_command" (sp_Device__count_command K) []) : C8.Met P w K mg base 2 (CD K) "write" (sp_Device_write K) [] := by
  obtain ⟨f, fd, F, hm⟩ := F
  refine ⟨f, fd, _, _, T.cD, hm, F.ok sc_Device_write (fun vs H Q E h => ?_) (fun cdv A outer s H vs Q E hr h => ?_), F.bindsN (fun _ _ _ _ _ _ us hl => match us, hl with | [_, _, _], _ => rfl), .nil⟩
  · obtain ⟨_, _, _, _, _, _, _, rfl, _⟩ := h
    rfl
  · obtain ⟨dv, lay, H0, d, a, b, t, rfl, ⟨p0, hd0⟩, ha, hw, ht0, hb, k⟩ := h
    refine ⟨_, PSs.nox (pss_cons (ps_expr (C8.pe_mt0 c_Device__count_command hr (by decide) (pv 0)))
      (pss_cons (ps_asg (pv 2) (pg_sub (pe_fld (pv 0) rfl) (pv 1) set_list))
      (pss_one (ps_if (pt_not (pt_val (pe_fld (pv 0) rfl))) (pss_one (ps_expr (pe_bm PySem.F.plainAttrs_list PySem.F.slot_list_append PySem.F.type_list_append mt_append (pe_fld (pv 0) rfl) (pa_cons (pe_tup (pa_cons (pv 1) (pa_cons (pv 2) pa_nil))) pa_nil)))) pss_nil)))), ?_⟩
    refine ⟨_, rfl, dv, _, _, rfl, hd0.h0, rfl, dv, lay, H0, d, rfl, ⟨p0, hd0⟩, fun H1 ⟨p, hd⟩ => ?_⟩
    have hb1 : BlkR H1 b t := hb.tk (TK.of hd.s)
    have hl : a < p.vse.length := by rw [← hd.r2.1, tick_len]; exact ha
    refine ⟨_, rfl, _, rfl, dv, _, p.dx, _, _, rfl, hd.h0, T.cD, T.nD_seen, rfl, _, rfl, p.se, _, _, a, rfl, rfl, hd.h2, ixN_nat rfl hl, ?_⟩
    have h2 := hd.setSeen (a := a) (b := b) (v := .ref t) ⟨t, rfl, hb1⟩
    refine ⟨_, rfl, dv, _, p.dx, _, _, rfl, h2.h0, T.cD, T.nD_dark, rfl, _, rfl, ?_⟩
    unfold Dev.write Dev.put at k
    cases ek : d.tick.dark with
    | true =>
      rw [if_pos ek] at k
      exact iteF (k _ ⟨_, h2⟩)
    | false =>
      rw [if_neg (by rw [ek]; exact Bool.false_ne_true)] at k
      refine iteT ?_
      refine ⟨_, rfl, dv, _, p.dx, _, _, rfl, h2.h0, T.cD, T.nD_waiting, rfl, .inl ⟨rfl, _, SqL.of h2.h3⟩, _, rfl, _, rfl, by show 2 ≤ sizeLine; decide, fun t0 ht => ?_⟩
      have hk : d.dark = false := by
        cases q : d.dark with
        | false => rfl
        | true => rw [tick_dark d q] at ek; cases ek
      have h3 := h2.same (sN (o := .tup [.int (a : Int), .ref t]) (sR _) ht)
      refine ⟨p.wa, _, _, rfl, rfl, h3.h3, ?_, ?_⟩
      · show p.vwa.length < sizeLine
        rw [← hd.r3.1, tick_wait]; exact sz_lt (by have := hw hk; omega)
      · have h4 := h2.push (a := a) (b := b) (hb1.tk (TK.upd fun xs q => by rw [hd.h2] at q; cases q)) ht
        exact k _ ⟨_, h4⟩
theorem flush_snoc {l : List (Option Blk)} {ws : List (Nat × Blk)} {w : Nat × Blk} : flush l (ws ++ [w]) = (flush l ws).set w.1 (some w.2) := by rw [flush_append]; rfl
theorem DevQ.eqS {H0 H : Hp} {dv lay : Addr} {d : Dev} {p : DevP} {s1 s2 : List (Option Blk)} (h : DevQ K H0 H dv lay { d with sure := s1 } p) (e : s1 = s2) : DevQ K H0 H dv lay { d with sure := s2 } p := e ▸ h
def sp_Device_barrier (K : PySem.W.Frag) : Sp := fun vs H Q _ => ∃ (dv lay : Addr) (H0 : Hp) (d : Dev), vs = [.ref dv] ∧ DevO K H0 H dv lay d ∧ (∀ w ∈ d.waiting, w.1 < d.sure.length) ∧ ∀ H', DevO K H0 H' dv lay d.barrier → Q .non H'
theorem sc_Device_barrier : FnScope ["self", "address", "block"] ["self"] (defScope s_Device_barrier) := ⟨rfl, rfl, rfl, by decide +kernel, rfl, by decide +kernel, by decide +kernel⟩
theorem met_Device_barrier (T : Txt K mg) (F : MD K (CD K) "barrier" "Device.barrier" s_Device_barrier) (c_Device__count_command : C8.Met P w K mg base 1 (CD K) "_count_command" (sp_Device__count_command K) []) : C8.Met P w K mg base 2 (CD K) "barrier" (sp_Device_barrier K) [] := by
  obtain ⟨f, fd, F, hm⟩ := F
  refine ⟨f, fd, _, _, T.cD, hm, F.ok sc_Device_barrier (fun vs H Q E h => ?_) (fun cdv A outer s H vs Q E hr h => ?_), F.bindsN (fun _ _ _ _ _ _ us hl => match us, hl with | [_], _ => rfl), .nil⟩
  · obtain ⟨_, _, _, _, rfl, _⟩ := h
    rfl
  · obtain ⟨dv, lay, H0, d, rfl, ⟨p0, hd0⟩, hw, k⟩ := h
    refine ⟨_, PSs.nox (pss_cons (ps_expr (C8.pe_mt0 c_Device__count_command hr (by decide) (pv 0)))
      (pss_one (ps_if (pt_not (pt_val (pe_fld (pv 0) rfl))) (pss_cons (ps_for PassesOwn.never rfl (pi_list (pe_fld (pv 0) rfl)) (pg_tup rfl (pgs_cons (pg_name (i := 1) sc_Device_barrier.nd rfl (Or.inl rfl)) (pgs_cons (pg_name (i := 2) sc_Device_barrier.nd rfl (Or.inl rfl)) pgs_nil))) (pss_one (ps_asg (pv 2) (pg_sub (pe_fld (pv 0) rfl) (pv 1) set_list))))
      (pss_one (ps_fld (pv 0) (pe_lst pa_nil) rfl))) pss_nil))), ?_⟩
    refine ⟨_, rfl, dv, _, _, rfl, hd0.h0, rfl, dv, lay, H0, d, rfl, ⟨p0, hd0⟩, fun H1 ⟨p, hd⟩ => ?_⟩
    refine ⟨_, rfl, dv, _, p.dx, _, _, rfl, hd.h0, T.cD, T.nD_dark, rfl, _, rfl, ?_⟩
    unfold Dev.barrier Dev.settle at k
    cases ek : d.tick.dark with
    | true =>
      rw [if_pos ek] at k
      exact iteF (k _ ⟨p, hd⟩)
    | false =>
      rw [if_neg (by rw [ek]; exact Bool.false_ne_true)] at k
      refine iteT ?_
      refine ⟨_, rfl, dv, _, p.dx, _, _, rfl, hd.h0, T.cD, T.nD_waiting, rfl, p.wa, rfl, ⟨_, SqL.of hd.h3⟩, for_it walk_list (fun i σ H' => ∃ (v1 v2 : Option V) (p' : DevP), σ = [some (.ref dv), v1, v2] ∧ p'.wa = p.wa ∧ p'.vwa = p.vwa ∧ DevQ K H0 H' dv lay { d.tick with sure := flush d.tick.sure (d.tick.waiting.take i) } p')
        ⟨none, none, p, rfl, rfl, rfl, hd⟩ (fun i σ H' _ ⟨_, _, p', _, e1, e2, h'⟩ => by have q := h'.h3; rw [e1, e2] at q; exact SqL.of q) ?_ ?_⟩
      · rintro i x σ H2 H3 hlt ⟨v1, v2, p', rfl, e1, e2, h'⟩ ⟨rfl, hx⟩
        have hlt' : i < d.tick.waiting.length := by rw [hd.r3.1]; exact hlt
        obtain ⟨t, tb, rfl, ht, hb⟩ := h'.r3.2 i _ _ (List.getElem?_eq_getElem hlt') (by rw [e2]; exact hx)
        refine ⟨t, _, rfl, SqT.of ht, rfl, _, _, rfl, ?_⟩
        refine ⟨_, _, rfl, rfl, ?_⟩
        have hwl : d.tick.waiting[i].1 < p'.vsu.length := by
          rw [← h'.r1.1]
          show _ < (flush d.tick.sure _).length
          rw [flush_len, tick_sure]
          exact hw _ (by rw [← tick_wait d]; exact List.getElem_mem hlt')
        refine ⟨_, rfl, _, rfl, dv, _, p'.dx, _, _, rfl, h'.h0, T.cD, T.nD_sure, rfl, _, rfl, p'.su, _, _, _, rfl, rfl, h'.h1, ixN_nat rfl hwl, ?_⟩
        have h4 := h'.setSure (a := d.tick.waiting[i].1) (b := d.tick.waiting[i].2) (v := .ref tb) ⟨tb, rfl, hb⟩
        refine ⟨_, _, { p' with vsu := p'.vsu.set d.tick.waiting[i].1 (.ref tb) }, rfl, e1, e2, ?_⟩
        have e3 : flush d.tick.sure (d.tick.waiting.take (i + 1)) = (flush d.tick.sure (d.tick.waiting.take i)).set d.tick.waiting[i].1 (some d.tick.waiting[i].2) := by
          rw [take_snoc (List.getElem?_eq_getElem hlt'), flush_snoc]
        exact DevQ.eqS (d := d.tick) h4 e3.symm
      · rintro σ H2 ⟨v1, v2, p', rfl, e1, e2, h'⟩
        rw [List.take_of_length_le (by rw [hd.r3.1]; exact Nat.le_refl _)] at h'
        refine ⟨Nat.zero_le _, fun q hq => ?_⟩
        refine ⟨_, rfl, dv, _, p'.dx, _, rfl, uN h'.h0 hq, T.cD, T.nD_waiting, of_decide_eq_true rfl, ?_⟩
        exact k _ ⟨_, h'.fresh hq⟩
end

end K30

namespace K30
open PySem PySem.Spec PyProof.Rows L2
/-! ## W8: logs: what they hold, the small steps -/
open K30X
section
variable {P : Program} {w : World} {K : PySem.W.Frag} {mg : Str → Option Value} {base : Heap}
/-- a log and its device, opened -/
structure LogW (K : PySem.W.Frag) (H0 H1 H : Hp) (lg dv lay : Addr) (st : St) (q : LogP) : Prop where
  d : DevO K H1 H dv lay st.dev
  l : LogQ K H0 H1 lg dv lay st.ls st.seq st.reg q
section
variable {H0 H1 H H' : Hp} {lg dv lay : Addr} {L : Lay} {st st' : St} {q q' : LogP}
theorem LogO.eqst (h : LogO K H0 H lg dv lay L st) (e : st = st') : LogO K H0 H lg dv lay L st' := e ▸ h
theorem LogO.opn (h : LogO K H0 H lg dv lay L st) : ∃ H1 q, LogW K H0 H1 H lg dv lay st q ∧ LayAt K H0 lay L := let ⟨H1, q, a, b, c⟩ := h.ex; ⟨H1, q, ⟨a, b⟩, c⟩
theorem LogW.cls (w : LogW K H0 H1 H lg dv lay st q) (y : LayAt K H0 lay L) : LogO K H0 H lg dv lay L st := ⟨H1, q, w.d, w.l, y⟩
theorem LogW.fr (w : LogW K H0 H1 H lg dv lay st q) : Same H1 H := w.d.frame
theorem LogW.h0 (w : LogW K H0 H1 H lg dv lay st q) : H lg = some (.ins (CG K) q.dx (logF dv lay q.pr q.sl st.ls.head st.ls.place q.qu st.seq st.reg q.cn)) := w.fr _ _ w.l.g0
theorem LogW.hp (w : LogW K H0 H1 H lg dv lay st q) : H q.pr = some (.lst (nats st.ls.present)) := w.fr _ _ w.l.p
theorem LogW.hs (w : LogW K H0 H1 H lg dv lay st q) : H q.sl = some (.lst q.vsl) := w.fr _ _ w.l.sl
theorem LogW.hr (w : LogW K H0 H1 H lg dv lay st q) : All2 (SlR H) st.ls.slots q.vsl := w.l.rs.mono fun _ _ z => z.same w.fr
theorem LogW.hq (w : LogW K H0 H1 H lg dv lay st q) : H q.qu = some (.lst (nats st.ls.queue)) := w.fr _ _ w.l.qu
theorem LogW.hc (w : LogW K H0 H1 H lg dv lay st q) : H q.cn = some (.ins (CC K) q.dc (cntF q.c1 q.c2 q.c3 q.c4 q.c5 q.c6 q.c7)) := w.fr _ _ w.l.g1
theorem LogW.hl (w : LogW K H0 H1 H lg dv lay st q) (y : LayAt K H0 lay L) : LayAt K H lay L := (y.same w.l.s).same w.fr
theorem LogW.hd (w : LogW K H0 H1 H lg dv lay st q) : ∃ p : DevP, H dv = some (.ins (CD K) p.dx (devF lay p.su p.se p.wa (fuV st.dev.fuse) st.dev.dark)) := let ⟨p, h⟩ := w.d; ⟨p, h.h0⟩
/-- new things beside -/
theorem LogW.new (w : LogW K H0 H1 H lg dv lay st q) (s : Same H H') : LogW K H0 (ext H1 H H') H' lg dv lay st q := by
  have e : Same H1 (ext H1 H H') := ext_same w.fr
  have no : ∀ a o, H1 a = some o → ext H1 H H' a = some o := fun a o z => e a o z
  exact ⟨w.d.ext s, ⟨fun b o z => no _ _ (w.l.s b o z), w.l.n0, w.l.n1, no _ _ w.l.g0, no _ _ w.l.g1, w.l.d01, no _ _ w.l.p, no _ _ w.l.sl, w.l.rs.mono fun _ _ z => z.same e, no _ _ w.l.qu⟩⟩
/-- the log's fields are set -/
theorem LogW.put (w : LogW K H0 H1 H lg dv lay st q) (pr sl qu : Addr) (vsl : List V) (ls : LS) (sq rg : Nat) (hp : H1 pr = some (.lst (nats ls.present))) (hs : H1 sl = some (.lst vsl)) (hr : All2 (SlR H1) ls.slots vsl) (hq : H1 qu = some (.lst (nats ls.queue))) :
    LogW K H0 (upd H1 lg (.ins (CG K) q.dx (logF dv lay pr sl ls.head ls.place qu sq rg q.cn))) (upd H lg (.ins (CG K) q.dx (logF dv lay pr sl ls.head ls.place qu sq rg q.cn))) lg dv lay { st with ls := ls, seq := sq, reg := rg } { q with pr := pr, sl := sl, qu := qu, vsl := vsl } := by
  have ne : ∀ {a : Addr} {xs : List V}, H1 a = some (.lst xs) → a ≠ lg := fun {a xs} z e => by rw [e, w.l.g0] at z; cases z
  refine ⟨w.d.put w.l.g0 (fun xs e => by cases e), ⟨sM w.l.s w.l.n0, w.l.n0, w.l.n1, upd_same, by rw [upd_ne (Ne.symm w.l.d01)]; exact w.l.g1, w.l.d01, by rw [upd_ne (ne hp)]; exact hp, by rw [upd_ne (ne hs)]; exact hs, hr.mono fun o v z => ?_, by rw [upd_ne (ne hq)]; exact hq⟩⟩
  cases o with
  | none => exact z
  | some t => obtain ⟨p, e, z⟩ := z; exact ⟨p, e, by rw [upd_ne (ne z)]; exact z⟩
/-- a count is set -/
theorem LogW.cnt (w : LogW K H0 H1 H lg dv lay st q) (c1 c2 c3 c4 c5 c6 c7 : Int) : LogW K H0 (upd H1 q.cn (.ins (CC K) q.dc (cntF c1 c2 c3 c4 c5 c6 c7))) (upd H q.cn (.ins (CC K) q.dc (cntF c1 c2 c3 c4 c5 c6 c7))) lg dv lay st { q with c1 := c1, c2 := c2, c3 := c3, c4 := c4, c5 := c5, c6 := c6, c7 := c7 } := by
  have ne : ∀ {a : Addr} {xs : List V}, H1 a = some (.lst xs) → a ≠ q.cn := fun {a xs} z e => by rw [e, w.l.g1] at z; cases z
  refine ⟨w.d.put w.l.g1 (fun xs e => by cases e), ⟨sM w.l.s w.l.n1, w.l.n0, w.l.n1, by rw [upd_ne w.l.d01]; exact w.l.g0, upd_same, w.l.d01, by rw [upd_ne (ne w.l.p)]; exact w.l.p, by rw [upd_ne (ne w.l.sl)]; exact w.l.sl, w.l.rs.mono fun o v z => ?_, by rw [upd_ne (ne w.l.qu)]; exact w.l.qu⟩⟩
  cases o with
  | none => exact z
  | some t => obtain ⟨p, e, z⟩ := z; exact ⟨p, e, by rw [upd_ne (ne z)]; exact z⟩
end
theorem cutV_from {xs : List V} {k : Nat} : cutV xs (some (k : Int)) none = xs.drop k := by
  unfold cutV
  rw [HT.sIx_nat, HT.sIx_none]
  by_cases h : k ≤ xs.length
  · rw [Nat.min_eq_left h, List.take_of_length_le (by rw [List.length_drop]; exact Nat.le_refl _)]
  · rw [Nat.min_eq_right (by omega), List.drop_of_length_le (Nat.le_refl _), List.drop_of_length_le (by omega), List.take_nil]
theorem cutV_to {xs : List V} {k : Nat} : cutV xs none (some (k : Int)) = xs.take k := by
  unfold cutV
  rw [HT.sIx_nat, HT.sIx_none, List.drop_zero, Nat.sub_zero]
  by_cases h : k ≤ xs.length
  · rw [Nat.min_eq_left h]
  · rw [Nat.min_eq_right (by omega), List.take_of_length_le (Nat.le_refl _), List.take_of_length_le (by omega)]
theorem cutV_mid {xs : List V} {a b : Nat} : cutV xs (some (a : Int)) (some (b : Int)) = (xs.drop a).take (b - a) := by
  unfold cutV
  rw [HT.sIx_nat, HT.sIx_nat]
  by_cases h : a ≤ xs.length
  · rw [Nat.min_eq_left h]
    by_cases h2 : b ≤ xs.length
    · rw [Nat.min_eq_left h2]
    · have e2 : min b xs.length = xs.length := Nat.min_eq_right (by omega)
      rw [e2, List.take_of_length_le (by rw [List.length_drop]; exact Nat.le_refl _), List.take_of_length_le (by rw [List.length_drop]; omega)]
  · have e1 : min a xs.length = xs.length := Nat.min_eq_right (by omega)
    rw [e1, List.drop_of_length_le (Nat.le_refl _), List.drop_of_length_le (by omega), List.take_nil, List.take_nil]
theorem nats_drop (xs : List Nat) (k : Nat) : (nats xs).drop k = nats (xs.drop k) := by unfold nats; rw [List.map_drop]
theorem nats_take (xs : List Nat) (k : Nat) : (nats xs).take k = nats (xs.take k) := by unfold nats; rw [List.map_take]
/-- a payload as it is handed about -/
def PayR (H : Hp) (p : Pay) (v : V) : Prop := ∃ t tb, v = .ref t ∧ H t = some (.tup [.int (p.1 : Int), .ref tb]) ∧ H tb = some (.tup (nats p.2))
theorem PayR.tk {H H' : Hp} {p : Pay} {v : V} (k : TK H H') (h : PayR H p v) : PayR H' p v := by
  obtain ⟨t, tb, e, h1, h2⟩ := h
  exact ⟨t, tb, e, k _ _ h1, k _ _ h2⟩
def OPR (H : Hp) (o : Option Pay) (v : V) : Prop := match o with
  | none => v = .non
  | some p => PayR H p v
theorem OPR.tk {H H' : Hp} {o : Option Pay} {v : V} (k : TK H H') (h : OPR H o v) : OPR H' o v := by
  cases o with
  | none => exact h
  | some p => exact PayR.tk k h
theorem flat_of {L : Lay} {b : Blk} (h : b.Wt L) (k : b.kind ≠ 1) : ∃ xs, b.body = .flat xs := by
  cases e : b.body with
  | com ids used act => exact absurd (h.c.mp (by rw [e]; rfl)) k
  | flat xs => exact ⟨xs, rfl⟩
def sp_payload_at (K : PySem.W.Frag) : Sp := fun vs H Q _ => ∃ (lg dv lay : Addr) (H0 : Hp) (L : Lay) (st : St) (a : Nat), vs = [.ref lg, .int (a : Int)] ∧ LogO K H0 H lg dv lay L st ∧ (∀ b, st.rd a = some b → b.Wt L) ∧ ∀ H' v, Same H H' → OPR H' (payAt st.rd a) v → Q v H'
theorem sc_payload_at : FnScope ["log", "address"] ["log", "address"] (defScope s_payload_at) := ⟨rfl, rfl, rfl, by decide +kernel, rfl, by decide +kernel, by decide +kernel⟩
theorem cal_payload_at (T : Txt K mg) (F : FD K mg "payload_at" s_payload_at) (c_payload_of : C8.Cal P w K mg base 2 "payload_of" (sp_payload_of K) []) (c_Device_read : C8.Met P w K mg base 1 (CD K) "read" (sp_Device_read K) []) : C8.Cal P w K mg base 3 "payload_at" (sp_payload_at K) [] := by
  obtain ⟨f, fd, F, hm⟩ := F
  refine ⟨f, fd, _, _, F.ok sc_payload_at (fun vs H Q E h => ?_) (fun cdv A outer s H vs Q E hr h => ?_), hm, F.kp, F.bindsN (fun _ _ _ _ _ _ us hl => match us, hl with | [_, _], _ => rfl), .nil⟩
  · obtain ⟨_, _, _, _, _, _, _, rfl, _⟩ := h
    rfl
  · obtain ⟨lg, dv, lay, H0, L, st, a, rfl, h, hw, k⟩ := h
    obtain ⟨H1, q, w, y⟩ := h.opn
    obtain ⟨p, hp⟩ := w.hd
    refine ⟨_, PSs.nox (pss_one (ps_ret (C8.pe_c c_payload_of hr (by decide) (by rfl) (pa_cons (C8.pe_mt c_Device_read hr (by decide) (pe_fld (pv 0) rfl) (pa_cons (pv 1) pa_nil)) pa_nil)))), ?_⟩
    refine ⟨_, rfl, lg, _, q.dx, _, _, rfl, w.h0, T.cG, T.nG_device, rfl, dv, _, _, rfl, hp, rfl, _, rfl, dv, lay, H1, st.dev, a, rfl, w.d, fun v hv => ?_⟩
    refine ⟨_, v, rfl, hv, fun hn H' s => ?_, fun b t tb eb ev ht hpay H' p s hpn hpt => ?_⟩
    · refine k H' _ s ?_
      have : payAt st.rd a = none := by
        unfold payAt St.rd
        cases e : rdl st.dev.seen a with
        | none => rfl
        | some b =>
          rw [e] at hn
          have hn' : ¬ (b.kind = 3 ∨ b.kind = 4) := of_decide_eq_false hn
          simp [hn']
      rw [this]; rfl
    · refine k H' _ s ?_
      subst ev
      rw [eb] at hpay hv
      have hk : b.kind = 3 ∨ b.kind = 4 := of_decide_eq_true hpay
      obtain ⟨xs, ex⟩ := flat_of (hw b eb) (by omega)
      have : payAt st.rd a = some (b.kind, xs) := by
        unfold payAt St.rd
        rw [eb]
        simp [hk, ex, Body.xs]
      rw [this]
      obtain ⟨t', e', tb', ht', hb'⟩ := hv
      cases e'
      rw [ht] at ht'
      cases ht'
      rw [ex] at hb'
      exact ⟨p, tb, rfl, hpt, s _ _ hb'⟩
def sp_next_sequence (K : PySem.W.Frag) : Sp := fun vs H Q _ => ∃ (lg dv lay : Addr) (H0 : Hp) (L : Lay) (st : St), vs = [.ref lg] ∧ LogO K H0 H lg dv lay L st ∧ ∀ H', LogO K H0 H' lg dv lay L { st with seq := st.seq + 1 } → Q (.int ((st.seq + 1 : Nat) : Int)) H'
theorem sc_next_sequence : FnScope ["log"] ["log"] (defScope s_next_sequence) := ⟨rfl, rfl, rfl, by decide +kernel, rfl, by decide +kernel, by decide +kernel⟩
theorem cal_next_sequence (T : Txt K mg) (F : FD K mg "next_sequence" s_next_sequence) : C8.Cal P w K mg base 1 "next_sequence" (sp_next_sequence K) [] := by
  obtain ⟨f, fd, F, hm⟩ := F
  refine ⟨f, fd, _, _, F.ok sc_next_sequence (fun vs H Q E h => ?_) (fun cdv A outer s H vs Q E hr h => ?_), hm, F.kp, F.bindsN (fun _ _ _ _ _ _ us hl => match us, hl with | [_], _ => rfl), .nil⟩
  · obtain ⟨_, _, _, _, _, _, rfl, _⟩ := h
    rfl
  · obtain ⟨lg, dv, lay, H0, L, st, rfl, h, k⟩ := h
    obtain ⟨H1, q, w, y⟩ := h.opn
    refine ⟨_, PSs.nox (pss_cons (ps_fld (pv 0) (pe_op op_add (pe_fld (pv 0) rfl) pe_int) rfl)
      (pss_one (ps_ret (pe_fld (pv 0) rfl)))), ?_⟩
    refine ⟨_, rfl, lg, _, q.dx, _, _, rfl, w.h0, T.cG, T.nG_last_sequence, rfl, _, _, rfl, rfl, _, rfl, lg, _, q.dx, _, rfl, w.h0, T.cG, T.nG_last_sequence, of_decide_eq_true rfl, ?_⟩
    have w2 := w.put q.pr q.sl q.qu q.vsl st.ls (st.seq + 1) st.reg w.l.p w.l.sl w.l.rs w.l.qu
    refine ⟨_, rfl, lg, _, q.dx, _, _, rfl, w2.h0, T.cG, T.nG_last_sequence, rfl, ?_⟩
    exact k _ (w2.cls y)
def sp_enter_segment (K : PySem.W.Frag) : Sp := fun vs H Q _ => ∃ (lg dv lay : Addr) (H0 : Hp) (L : Lay) (st : St), vs = [.ref lg] ∧ LogO K H0 H lg dv lay L st ∧ st.ls.queue ≠ [] ∧ ∀ H', LogO K H0 H' lg dv lay L (enterSt st) → Q .non H'
theorem sc_enter_segment : FnScope ["log"] ["log"] (defScope s_enter_segment) := ⟨rfl, rfl, rfl, by decide +kernel, rfl, by decide +kernel, by decide +kernel⟩
theorem cal_enter_segment (T : Txt K mg) (F : FD K mg "enter_segment" s_enter_segment) : C8.Cal P w K mg base 1 "enter_segment" (sp_enter_segment K) [] := by
  obtain ⟨f, fd, F, hm⟩ := F
  refine ⟨f, fd, _, _, F.ok sc_enter_segment (fun vs H Q E h => ?_) (fun cdv A outer s H vs Q E hr h => ?_), hm, F.kp, F.bindsN (fun _ _ _ _ _ _ us hl => match us, hl with | [_], _ => rfl), .nil⟩
  · obtain ⟨_, _, _, _, _, _, rfl, _⟩ := h
    rfl
  · obtain ⟨lg, dv, lay, H0, L, st, rfl, h, hne, k⟩ := h
    obtain ⟨H1, q, w, y⟩ := h.opn
    obtain ⟨x, r, eq⟩ : ∃ x r, st.ls.queue = x :: r := by
      cases eq : st.ls.queue with
      | nil => exact absurd eq hne
      | cons x r => exact ⟨x, r, rfl⟩
    refine ⟨_, PSs.nox (pss_cons (ps_fld (pv 0) (pe_ix ix_list (pe_fld (pv 0) rfl) pe_int (fun _ _ => rfl)) rfl)
      (pss_cons (ps_fld (pv 0) (pe_slice sl_list (pe_fld (pv 0) rfl) (po_some pe_int) po_none) rfl)
      (pss_one (ps_fld (pv 0) pe_int rfl)))), ?_⟩
    have hq := w.hq
    rw [eq] at hq
    refine ⟨_, rfl, lg, _, q.dx, _, _, rfl, w.h0, T.cG, T.nG_queue, rfl, q.qu, _, _, _, rfl, rfl, SqL.of hq, atI_nat (j := 0) rfl, _, rfl, lg, _, q.dx, _, rfl, w.h0, T.cG, T.nG_head, of_decide_eq_true rfl, ?_⟩
    have w2 := w.put q.pr q.sl q.qu q.vsl { st.ls with head := x } st.seq st.reg w.l.p w.l.sl w.l.rs w.l.qu
    refine ⟨_, rfl, lg, _, q.dx, _, _, rfl, w2.h0, T.cG, T.nG_queue, rfl, _, rfl, q.qu, _, rfl, SqL.of w2.hq, fun p hp => ?_⟩
    have ec : cutV (nats st.ls.queue) (some 1) none = nats r := by
      rw [show (1 : Int) = ((1 : Nat) : Int) from rfl, cutV_from, nats_drop, eq]; rfl
    have w3 := w2.new (sN (o := .lst (cutV (nats st.ls.queue) (some 1) none)) (sR _) hp)
    refine ⟨_, rfl, lg, _, q.dx, _, rfl, w3.h0, T.cG, T.nG_queue, of_decide_eq_true rfl, ?_⟩
    have w4 := w3.put q.pr q.sl p q.vsl { st.ls with head := x, queue := r } st.seq st.reg w3.l.p w3.l.sl w3.l.rs ((ext_new hp).trans (upd_same.trans (by rw [ec])))
    refine ⟨_, rfl, lg, _, q.dx, _, rfl, w4.h0, T.cG, T.nG_place, of_decide_eq_true rfl, ?_⟩
    have w5 := w4.put q.pr q.sl p q.vsl { st.ls with head := x, queue := r, place := 0 } st.seq st.reg w4.l.p w4.l.sl w4.l.rs w4.l.qu
    have e5 : ({ st.ls with head := x, queue := r, place := 0 } : LS) = enter st.ls := by unfold enter; rw [eq]; rfl
    have e6 : ({ st with ls := { st.ls with head := x, queue := r, place := 0 } } : St) = enterSt st := by unfold enterSt; rw [e5]
    exact k _ (LogO.eqst (w5.cls y) e6)
def sp_sync_log (K : PySem.W.Frag) : Sp := fun vs H Q _ => ∃ (lg dv lay : Addr) (H0 : Hp) (L : Lay) (st : St), vs = [.ref lg] ∧ LogO K H0 H lg dv lay L st ∧ (∀ w ∈ st.dev.waiting, w.1 < st.dev.sure.length) ∧ ∀ H', LogO K H0 H' lg dv lay L (syncSt st) → Q .non H'
theorem sc_sync_log : FnScope ["log"] ["log"] (defScope s_sync_log) := ⟨rfl, rfl, rfl, by decide +kernel, rfl, by decide +kernel, by decide +kernel⟩
theorem cal_sync_log (T : Txt K mg) (F : FD K mg "sync_log" s_sync_log) (c_Device_barrier : C8.Met P w K mg base 2 (CD K) "barrier" (sp_Device_barrier K) []) : C8.Cal P w K mg base 3 "sync_log" (sp_sync_log K) [] := by
  obtain ⟨f, fd, F, hm⟩ := F
  refine ⟨f, fd, _, _, F.ok sc_sync_log (fun vs H Q E h => ?_) (fun cdv A outer s H vs Q E hr h => ?_), hm, F.kp, F.bindsN (fun _ _ _ _ _ _ us hl => match us, hl with | [_], _ => rfl), .nil⟩
  · obtain ⟨_, _, _, _, _, _, rfl, _⟩ := h
    rfl
  · obtain ⟨lg, dv, lay, H0, L, st, rfl, h, hw, k⟩ := h
    obtain ⟨H1, q, w, y⟩ := h.opn
    obtain ⟨p, hp⟩ := w.hd
    refine ⟨_, PSs.nox (pss_cons (ps_expr (C8.pe_mt0 c_Device_barrier hr (by decide) (pe_fld (pv 0) rfl)))
      (pss_one (ps_fld (pe_fld (pv 0) rfl) (pe_op op_add (pe_fld (pe_fld (pv 0) rfl) rfl) pe_int) rfl))), ?_⟩
    refine ⟨_, rfl, lg, _, q.dx, _, _, rfl, w.h0, T.cG, T.nG_device, rfl, dv, _, _, rfl, hp, rfl, dv, lay, H1, st.dev, rfl, w.d, hw, fun H2 d2 => ?_⟩
    have w2 : LogW K H0 H1 H2 lg dv lay (syncSt st) q := ⟨d2, w.l⟩
    refine ⟨_, rfl, lg, _, q.dx, _, _, rfl, w2.h0, T.cG, T.nG_counts, rfl, q.cn, _, q.dc, _, _, rfl, w2.hc, T.cC, T.nC_barriers, rfl, _, _, rfl, rfl, ?_⟩
    refine ⟨_, rfl, lg, _, q.dx, _, _, rfl, w2.h0, T.cG, T.nG_counts, rfl, q.cn, _, q.dc, _, rfl, w2.hc, T.cC, T.nC_barriers, of_decide_eq_true rfl, ?_⟩
    exact k _ ((w2.cnt q.c1 q.c2 q.c3 q.c4 q.c5 q.c6 (q.c7 + 1)).cls y)
end

end K30

namespace K30
open PySem PySem.Spec PyProof.Rows L2
/-! ## W9: the addresses that live -/
open K30X
section
variable {P : Program} {w : World} {K : PySem.W.Frag} {mg : Str → Option Value} {base : Heap}
/-- a dict used as a set of numbers -/
def DS (kvs : List (Key × V)) (ks : List Nat) : Prop := kvs.map (·.1) = ks.map fun (n : Nat) => (Sum.inl (n : Int) : Key)
theorem DS.has {kvs : List (Key × V)} {ks : List Nat} (h : DS kvs ks) {n : Nat} : (kvs.any fun kv => decide (kv.1 = Sum.inl (n : Int))) = decide (n ∈ ks) := by
  rw [Bool.eq_iff_iff, List.any_eq_true, decide_eq_true_iff]
  constructor
  · rintro ⟨kv, hm, e⟩
    have e' : kv.1 = Sum.inl (n : Int) := of_decide_eq_true e
    have : kv.1 ∈ kvs.map (·.1) := List.mem_map.mpr ⟨kv, hm, rfl⟩
    rw [h] at this
    obtain ⟨m, hm, em⟩ := List.mem_map.mp this
    rw [e'] at em
    have := Sum.inl.inj em
    have : m = n := by omega
    exact this ▸ hm
  · intro hm
    have : (Sum.inl (n : Int) : Key) ∈ kvs.map (·.1) := by rw [h]; exact List.mem_map.mpr ⟨n, hm, rfl⟩
    obtain ⟨kv, hk, e⟩ := List.mem_map.mp this
    exact ⟨kv, hk, decide_eq_true e⟩
theorem DS.put {kvs : List (Key × V)} {ks : List Nat} (h : DS kvs ks) (n : Nat) (v : V) : DS (putK kvs (Sum.inl (n : Int)) v) (if n ∈ ks then ks else ks ++ [n]) := by
  unfold putK
  rw [h.has]
  by_cases c : n ∈ ks
  · rw [if_pos (decide_eq_true c), if_pos c]
    show (kvs.map _).map _ = _
    rw [List.map_map, ← (show kvs.map (·.1) = _ from h)]
    refine List.map_congr_left fun kv _ => ?_
    show (if kv.1 = _ then (kv.1, v) else kv).1 = kv.1
    split <;> rfl
  · rw [if_neg (by rw [decide_eq_false c]; exact Bool.false_ne_true), if_neg c]
    show (kvs ++ _).map _ = _
    rw [List.map_append, List.map_append, (show kvs.map (·.1) = _ from h)]; rfl
theorem DS.nil : DS [] [] := rfl
theorem DS.len {kvs : List (Key × V)} {ks : List Nat} (h : DS kvs ks) : kvs.length = ks.length := by
  have := congrArg List.length h
  rw [List.length_map, List.length_map] at this
  exact this
/-- sorted numbers are numbers -/
theorem nats_perm {ks : List Nat} {ys : List Int} (h : ys.Perm (ks.map fun (n : Nat) => (n : Int))) : ∃ zs : List Nat, ys.map V.int = nats zs ∧ zs.Perm ks := by
  refine ⟨ys.map Int.toNat, ?_, ?_⟩
  · unfold nats
    rw [List.map_map]
    refine List.map_congr_left fun y hy => ?_
    obtain ⟨n, _, e⟩ := List.mem_map.mp (h.mem_iff.mp hy)
    subst e
    rfl
  · have := h.map Int.toNat
    rw [List.map_map] at this
    have e : (Int.toNat ∘ fun (n : Nat) => (n : Int)) = id := by funext n; simp
    rw [e, List.map_id] at this
    exact this
def insN (ks : List Nat) (n : Nat) : List Nat := if n ∈ ks then ks else ks ++ [n]
theorem insN_mem {ks : List Nat} {n a : Nat} : a ∈ insN ks n ↔ a ∈ ks ∨ a = n := by
  unfold insN
  split
  · rename_i h
    exact ⟨.inl, fun q => q.elim id fun e => e ▸ h⟩
  · rw [List.mem_append, List.mem_singleton]
theorem insN_nd {ks : List Nat} {n : Nat} (h : ks.Nodup) : (insN ks n).Nodup := by
  unfold insN
  split
  · exact h
  · rename_i c
    exact List.nodup_append.mpr ⟨h, List.nodup_cons.mpr ⟨by simp, List.nodup_nil⟩, fun a ha b hb e => c (by rw [← List.mem_singleton.mp hb, ← e]; exact ha)⟩
theorem insN_len {ks : List Nat} {n : Nat} : (insN ks n).length ≤ ks.length + 1 := by
  unfold insN
  split
  · omega
  · simp
theorem live_iff {ls : LS} {a : Nat} : Live ls a ↔ a ≠ 0 ∧ ∃ t, some t ∈ (some ls.present :: ls.slots) ∧ a ∈ t := by
  constructor
  · rintro ⟨h0, t, ht, hm⟩
    rcases tabs_of ht with rfl | ht
    · exact ⟨h0, _, List.mem_cons_self, hm⟩
    · exact ⟨h0, t, List.mem_cons_of_mem _ ht, hm⟩
  · rintro ⟨h0, t, ht, hm⟩
    rcases List.mem_cons.mp ht with e | ht
    · cases e
      exact ⟨h0, _, tabs_p, hm⟩
    · exact ⟨h0, t, tabs_s ht, hm⟩
def sp_live_addresses (K : PySem.W.Frag) : Sp := fun vs H Q _ => ∃ (lg dv lay : Addr) (H0 : Hp) (L : Lay) (st : St), vs = [.ref lg] ∧ LogO K H0 H lg dv lay L st ∧ st.ls.slots.length = 3 ∧ (∀ t ∈ tabs st.ls, t.length ≤ 1000) ∧
  ∀ H' p ys, Same H H' → H p = Option.none → H' p = some (.lst (nats ys)) → (∀ a, a ∈ ys ↔ Live st.ls a) → ys.Nodup → ys.length ≤ 4000 → Q (.ref p) H'
theorem sc_live_addresses : FnScope ["log", "found", "table", "address"] ["log"] (defScope s_live_addresses) := ⟨rfl, rfl, rfl, by decide +kernel, rfl, by decide +kernel, by decide +kernel⟩
theorem cal_live_addresses (T : Txt K mg) (F : FD K mg "live_addresses" s_live_addresses) : C8.Cal P w K mg base 1 "live_addresses" (sp_live_addresses K) [] := by
  obtain ⟨f, fd, F, hm⟩ := F
  refine ⟨f, fd, _, _, F.ok sc_live_addresses (fun vs H Q E h => ?_) (fun cdv A outer s H vs Q E hr h => ?_), hm, F.kp, F.bindsN (fun _ _ _ _ _ _ us hl => match us, hl with | [_], _ => rfl), .nil⟩
  · obtain ⟨_, _, _, _, _, _, rfl, _⟩ := h
    rfl
  · obtain ⟨lg, dv, lay, H0, L, st, rfl, h, h3, hlen, k⟩ := h
    obtain ⟨H1, q, w, y⟩ := h.opn
    refine ⟨_, PSs.nox (pss_cons (ps_set (i := 1) sc_live_addresses.nd rfl (Or.inl rfl) pe_dnewK)
      (pss_cons (ps_for PassesOwn.never rfl (pi_list (pe_op op_cat (pe_lst (pa_cons (pe_fld (pv 0) rfl) pa_nil)) (pe_fld (pv 0) rfl))) (pg_name (i := 2) sc_live_addresses.nd rfl (Or.inl rfl)) (pss_one (ps_if (pt_cmpR op_notN (pv 2) pe_non (nomark _)) (pss_one (ps_for PassesOwn.never rfl (pi_list (pv 2)) (pg_name (i := 3) sc_live_addresses.nd rfl (Or.inl rfl)) (pss_one (ps_if (pt_cmpR op_ne (pv 3) pe_int (nomark _)) (pss_one (ps_dput (hu_of hr) (pv 1) (pv 3) pe_bl rfl)) pss_nil)))) pss_nil)))
      (pss_one (ps_ret (pe_callB (call_sortedDA rfl) (by rfl) T.b_sorted (by decide +kernel) (pa_cons (pv 1) pa_nil)))))), ?_⟩
    intro d hd
    have s1 : Same H (upd H d (.dK [])) := sN (sR H) hd
    have w1 := w.new s1
    refine ⟨_, rfl, lg, _, q.dx, _, _, rfl, w1.h0, T.cG, T.nG_present, rfl, by show 1 ≤ sizeLine; decide, fun p0 hp0 => ?_⟩
    have w2 := w1.new (sN (o := .lst [.ref q.pr]) (sR _) hp0)
    refine ⟨_, rfl, lg, _, q.dx, _, _, rfl, w2.h0, T.cG, T.nG_slots, rfl, p0, q.sl, _, _, rfl, rfl, upd_same, w2.hs, ?_, fun p1 hp1 => ?_⟩
    · rw [List.length_singleton, ← w2.hr.1, h3]; exact by decide
    have w3 := w2.new (sN (o := .lst ([.ref q.pr] ++ q.vsl)) (sR _) hp1)
    have s3 : Same H (upd (upd (upd H d (.dK [])) p0 (.lst [.ref q.pr])) p1 (.lst ([.ref q.pr] ++ q.vsl))) := sN (sN s1 hp0) hp1
    have hd3 : upd (upd (upd H d (.dK [])) p0 (.lst [.ref q.pr])) p1 (.lst ([.ref q.pr] ++ q.vsl)) d = some (.dK []) := uN (uN upd_same hp0) hp1
    have hr3 : All2 (SlR (upd (upd (upd H d (.dK [])) p0 (.lst [.ref q.pr])) p1 (.lst ([.ref q.pr] ++ q.vsl)))) (some st.ls.present :: st.ls.slots) (.ref q.pr :: q.vsl) := All2.cons ⟨q.pr, rfl, w3.hp⟩ w3.hr
    have hsz : ∀ t, some t ∈ (some st.ls.present :: st.ls.slots) → t.length ≤ 1000 := fun t ht => by
      rcases List.mem_cons.mp ht with e | ht
      · cases e; exact hlen _ tabs_p
      · exact hlen _ (tabs_s ht)
    have np : p1 ≠ d := fun e => by rw [e, show upd (upd H d (.dK [])) p0 (.lst [.ref q.pr]) d = some (.dK []) from uN upd_same hp0] at hp1; cases hp1
    let G := upd (upd (upd H d (.dK [])) p0 (.lst [.ref q.pr])) p1 (.lst ([.ref q.pr] ++ q.vsl))
    let os := some st.ls.present :: st.ls.slots
    have hosl : os.length = 4 := by show st.ls.slots.length + 1 = 4; rw [h3]
    refine ⟨p1, rfl, ⟨_, SqL.of upd_same⟩, for_it walk_list (fun i σ H' => ∃ (v2 v3 : Option V) (kvs : List (Key × V)) (ks : List Nat), σ = [some (.ref lg), some (.ref d), v2, v3] ∧ Same H H' ∧ But d G H' ∧ H' d = some (.dK kvs) ∧ DS kvs ks ∧ ks.Nodup ∧ ks.length ≤ i * 1000 ∧ ∀ a, a ∈ ks ↔ a ≠ 0 ∧ ∃ t, some t ∈ os.take i ∧ a ∈ t)
      ⟨none, none, [], [], rfl, s3, bR, hd3, DS.nil, List.nodup_nil, Nat.zero_le _, fun a => by simp⟩ (fun i σ H' _ ⟨_, _, _, _, _, _, b, _⟩ => SqL.of (b p1 _ np upd_same)) ?_ ?_⟩
    · rintro i x σ H2 H3 hlt ⟨v2, v3, kvs, ks, rfl, s2, b2, h2, ds, nd, ln, mm⟩ ⟨rfl, hx⟩
      have hi4 : i < 4 := by rw [← hosl, hr3.1]; exact hlt
      obtain ⟨o, ho⟩ : ∃ o, os[i]? = some o := ⟨_, List.getElem?_eq_getElem (by rw [hosl]; exact hi4)⟩
      have ro := hr3.2 i o x ho hx
      have tks := take_snoc ho
      cases o with
      | none =>
        have ex : x = .non := ro
        subst ex
        refine ⟨_, rfl, rfl, _, rfl, ?_⟩
        refine iteF ?_
        refine ⟨_, _, kvs, ks, rfl, s2, b2, h2, ds, nd, by omega, fun a => ?_⟩
        rw [mm a, tks]
        simp
      | some t =>
        obtain ⟨pt, rfl, hpt⟩ := ro
        refine ⟨_, rfl, rfl, _, rfl, ?_⟩
        refine iteT ?_
        have npt : pt ≠ d := fun e => by
          have z := hd3.symm.trans (e ▸ hpt)
          cases z
        have hpt3 := b2 pt _ npt hpt
        have htl : t.length ≤ 1000 := hsz t (List.mem_of_getElem? ho)
        refine ⟨_, rfl, pt, rfl, ⟨_, SqL.of hpt3⟩, for_it walk_list (fun j σ H' => ∃ (v3 : Option V) (kvs : List (Key × V)) (ks : List Nat), σ = [some (.ref lg), some (.ref d), some (.ref pt), v3] ∧ Same H H' ∧ But d G H' ∧ H' d = some (.dK kvs) ∧ DS kvs ks ∧ ks.Nodup ∧ ks.length ≤ i * 1000 + j ∧ ∀ a, a ∈ ks ↔ a ≠ 0 ∧ ((∃ t, some t ∈ os.take i ∧ a ∈ t) ∨ a ∈ t.take j))
          ⟨_, kvs, ks, rfl, s2, b2, h2, ds, nd, ln, fun a => by rw [mm a, List.take_zero]; simp⟩ (fun j σ H' _ ⟨_, _, _, _, _, b, _⟩ => SqL.of (b pt _ npt hpt)) ?_ ?_⟩
        · rintro j x σ H4 H5 hlt2 ⟨v3', kvs', ks', rfl, s4, b4, h4, ds4, nd4, ln4, mm4⟩ ⟨rfl, hx2⟩
          obtain ⟨n, en, rfl⟩ := nats_get hx2
          have hj : j < t.length := (List.getElem?_eq_some_iff.mp en).1
          have tk2 := take_snoc en
          refine ⟨_, rfl, rfl, _, rfl, ?_⟩
          by_cases c : n = 0
          · subst c
            refine dNF (show V.int ((0 : Nat) : Int) = V.int 0 from rfl) ?_
            refine ⟨_, kvs', ks', rfl, s4, b4, h4, ds4, nd4, by omega, fun a => ?_⟩
            rw [mm4 a, tk2]
            constructor
            · rintro ⟨z, q⟩
              exact ⟨z, q.imp id fun q => List.mem_append_left _ q⟩
            · rintro ⟨z, q⟩
              refine ⟨z, q.imp id fun q => ?_⟩
              rcases List.mem_append.mp q with q | q
              · exact q
              · exact absurd (List.mem_singleton.mp q) z
          · refine dNT (fun z => c (by injection z; omega)) ?_
            refine ⟨_, rfl, _, rfl, d, _, rfl, DPut.k (k := Sum.inl (n : Int)) h4 (sz_lt (by have := ds4.len; omega)), ?_⟩
            refine ⟨_, _, insN ks' n, rfl, sM s4 hd, bX b4, upd_same, ds4.put n _, insN_nd nd4, by have := insN_len (ks := ks') (n := n); omega, fun a => ?_⟩
            rw [insN_mem, mm4 a, tk2, List.mem_append, List.mem_singleton]
            constructor
            · rintro (⟨z, q | q⟩ | rfl)
              · exact ⟨z, .inl q⟩
              · exact ⟨z, .inr (.inl q)⟩
              · exact ⟨c, .inr (.inr rfl)⟩
            · rintro ⟨z, q | q | q⟩
              · exact .inl ⟨z, .inl q⟩
              · exact .inl ⟨z, .inr q⟩
              · exact .inr q
        · rintro σ H4 ⟨v3', kvs', ks', rfl, s4, b4, h4, ds4, nd4, ln4, mm4⟩
          rw [nats_len] at ln4
          refine ⟨_, _, kvs', ks', rfl, s4, b4, h4, ds4, nd4, by omega, fun a => ?_⟩
          rw [mm4 a, nats_len, List.take_length, tks]
          constructor
          · rintro ⟨z, ⟨t', h1, h2⟩ | h1⟩
            · exact ⟨z, t', List.mem_append_left _ h1, h2⟩
            · exact ⟨z, t, List.mem_append_right _ List.mem_cons_self, h1⟩
          · rintro ⟨z, t', h1, h2⟩
            rcases List.mem_append.mp h1 with h1 | h1
            · exact ⟨z, .inl ⟨t', h1, h2⟩⟩
            · have e1 := Option.some.inj (List.mem_singleton.mp h1)
              exact ⟨z, .inr (e1 ▸ h2)⟩
    · rintro σ H2 ⟨v2, v3, kvs, ks, rfl, s2, b2, h2, ds, nd, ln, mm⟩
      have hL4 : ([V.ref q.pr] ++ q.vsl).length = 4 := by rw [← hosl]; exact hr3.1.symm
      rw [hL4] at ln mm
      rw [List.take_of_length_le (Nat.le_of_eq hosl)] at mm
      refine ⟨_, rfl, d, kvs, ks.map (fun (n : Nat) => (n : Int)), rfl, .inl h2, ?_, ?_, fun ys p hperm _ hp => ?_⟩
      · rw [show kvs.map (·.1) = _ from ds, List.map_map]; rfl
      · rw [List.length_map]; omega
      · obtain ⟨zs, ez, pz⟩ := nats_perm hperm
        rw [ez]
        refine k _ p zs (sN s2 hp) (sF s2 hp) upd_same (fun a => ?_) (pz.nodup_iff.mpr nd) (by rw [pz.length_eq]; omega)
        rw [pz.mem_iff, mm a, live_iff]
end

end K30

namespace K30
open PySem PySem.Spec PyProof.Rows L2
/-! ## W10: batches -/
open K30X
section
variable {P : Program} {w : World} {K : PySem.W.Frag} {mg : Str → Option Value} {base : Heap}
/-- a batch's body is small -/
structure Body.Sm (b : Body) : Prop where
  c : b.cnt ≤ 1000
  a : ∀ ids used act, b = .com ids used act → act ≤ 6 ∧ used.length ≤ 1000
structure LS.Sm (ls : LS) : Prop where
  s3 : ls.slots.length = 3
  tl : ∀ t ∈ tabs ls, t.length ≤ 1000
def sp_take_batch (K : PySem.W.Frag) : Sp := fun vs H Q _ => ∃ (lg dv lay : Addr) (H0 : Hp) (L : Lay) (st : St) (kind : Nat) (tb : Addr) (b : Body), vs = [.ref lg, .int (kind : Int), .ref tb] ∧ LogO K H0 H lg dv lay L st ∧ L.Ok ∧ BodyR H tb b ∧ (isCom b = true ↔ kind = 1) ∧ b.Sm ∧ st.ls.Sm ∧
  ∀ H', LogO K H0 H' lg dv lay L { st with ls := take L st.ls b } → Q .non H'
theorem sc_take_batch : FnScope ["log", "kind", "body", "start", "ids", "used", "action", "count", "slot"] ["log", "kind", "body"] (defScope s_take_batch) := ⟨rfl, rfl, rfl, by decide +kernel, rfl, by decide +kernel, by decide +kernel⟩
theorem cal_take_batch (T : Txt K mg) (F : FD K mg "take_batch" s_take_batch) (c_address_at : C8.Cal P w K mg base 1 "address_at" (sp_address_at K) []) (c_commit_to_table : C8.Cal P w K mg base 1 "commit_to_table" (sp_commit_to_table K) []) (c_slots_after : C8.Cal P w K mg base 1 "slots_after" (sp_slots_after K) []) (c_move_in_table : C8.Cal P w K mg base 1 "move_in_table" (sp_move_in_table K) []) : C8.Cal P w K mg base 2 "take_batch" (sp_take_batch K) [] := by
  obtain ⟨f, fd, F, hm⟩ := F
  refine ⟨f, fd, _, _, F.ok sc_take_batch (fun vs H Q E h => ?_) (fun cdv A outer s H vs Q E hr h => ?_), hm, F.kp, F.bindsN (fun _ _ _ _ _ _ us hl => match us, hl with | [_, _, _], _ => rfl), .nil⟩
  · obtain ⟨_, _, _, _, _, _, _, _, _, rfl, _⟩ := h
    rfl
  · obtain ⟨lg, dv, lay, H0, L, st, kind, tb, b, rfl, h, O, hb, hk, bs, ls, k⟩ := h
    obtain ⟨H1, q, w, y⟩ := h.opn
    obtain ⟨dl, hl⟩ := w.hl y
    refine ⟨_, PSs.nox (pss_cons (ps_set (i := 3) sc_take_batch.nd rfl (Or.inr rfl) (pe_op op_add (C8.pe_c c_address_at hr (by decide) (by rfl) (pa_cons (pe_fld (pv 0) rfl) (pa_cons (pe_fld (pv 0) rfl) (pa_cons (pe_fld (pv 0) rfl) pa_nil)))) pe_int))
      (pss_cons (ps_if (pt_cmpR op_eq (pv 1) (pe_gi T.i_COMMIT rfl) (nomark _)) (pss_cons (ps_asg (pv 2) (pg_tup rfl (pgs_cons (pg_name (i := 4) sc_take_batch.nd rfl (Or.inl rfl)) (pgs_cons (pg_name (i := 5) sc_take_batch.nd rfl (Or.inl rfl)) (pgs_cons (pg_name (i := 6) sc_take_batch.nd rfl (Or.inl rfl)) pgs_nil)))))
      (pss_cons (ps_set (i := 7) sc_take_batch.nd rfl (Or.inl rfl) (pe_callB call_len_seq (by rfl) T.b_len PySem.boot_len (pa_cons (pv 4) pa_nil)))
      (pss_cons (ps_fld (pv 0) (C8.pe_c c_commit_to_table hr (by decide) (by rfl) (pa_cons (pe_fld (pv 0) rfl) (pa_cons (pv 3) (pa_cons (pv 4) (pa_cons (pv 5) pa_nil))))) rfl)
      (pss_one (ps_fld (pv 0) (C8.pe_c c_slots_after hr (by decide) (by rfl) (pa_cons (pe_fld (pv 0) rfl) (pa_cons (pe_fld (pv 0) rfl) (pa_cons (pv 6) pa_nil)))) rfl))))) (pss_cons (ps_set (i := 7) sc_take_batch.nd rfl (Or.inl rfl) (pe_callB call_len_seq (by rfl) T.b_len PySem.boot_len (pa_cons (pv 2) pa_nil)))
      (pss_cons (ps_fld (pv 0) (C8.pe_c c_move_in_table hr (by decide) (by rfl) (pa_cons (pe_fld (pv 0) rfl) (pa_cons (pv 3) (pa_cons (pv 2) pa_nil)))) rfl)
      (pss_one (ps_fld (pv 0) (pe_lc (own := [("slot", 8)]) (g := gName 8) (tt := tYes) (by rfl) sc_take_batch.nd (pi_list (pe_fld (pv 0) rfl)) (blkOk_by (N := ["log", "kind", "body", "start", "ids", "used", "action", "count", "slot"]) (sc := defScope s_take_batch) (by decide +kernel)) (fun _ _ _ _ _ => pg_name (i := 8) sc_take_batch.nd rfl (Or.inl rfl)) (fun _ _ _ _ _ => pts_nil) (fun _ _ _ _ _ => (pe_ifExp (pt_cmpR op_isN (pv 8) pe_non (nomark _)) pe_non (C8.pe_c c_move_in_table hr (by decide) (by rfl) (pa_cons (pv 8) (pa_cons (pv 3) (pa_cons (pv 2) pa_nil))))))) rfl)))))
      (pss_one (ps_fld (pv 0) (pe_op op_add (pe_op op_add (pe_fld (pv 0) rfl) pe_int) (pv 7)) rfl)))), ?_⟩
    refine ⟨_, rfl, lg, _, q.dx, _, _, rfl, w.h0, T.cG, T.nG_layout, rfl, _, rfl, lg, _, q.dx, _, _, rfl, w.h0, T.cG, T.nG_head, rfl, _, rfl, lg, _, q.dx, _, _, rfl, w.h0, T.cG, T.nG_place, rfl, ?_⟩
    refine ⟨lay, st.ls.head, st.ls.place, L, rfl, ⟨dl, hl⟩, O, _, _, rfl, rfl, ?_⟩
    refine ⟨_, rfl, rfl, _, rfl, ?_⟩
    cases b with
    | com ids used act =>
      have hk1 : kind = 1 := hk.mp rfl
      subst hk1
      obtain ⟨t1, t2, hb0, hb1, hb2⟩ := hb
      refine dT rfl ?_
      have hc1 : ids.length ≤ 1000 := bs.c
      obtain ⟨ha6, hu⟩ := bs.a ids used act rfl
      refine ⟨_, rfl, tb, _, rfl, SqT.of hb0, rfl, _, _, rfl, ?_⟩
      refine ⟨_, _, rfl, _, _, rfl, rfl, ?_⟩
      refine ⟨_, rfl, t1, _, rfl, .inr (SqT.of hb1), ?_⟩
      refine ⟨_, rfl, lg, _, q.dx, _, _, rfl, w.h0, T.cG, T.nG_present, rfl, _, rfl, _, rfl, _, rfl, ?_⟩
      refine ⟨q.pr, t1, t2, st.ls.present, ids, used, L.ad st.ls.head st.ls.place + 1, rfl, w.hp, hb1, hb2, ls.tl _ tabs_p, fun H2 p s2 hp hp2 => ?_⟩
      have w2 := w.new s2
      refine ⟨_, rfl, lg, _, q.dx, _, rfl, w2.h0, T.cG, T.nG_present, of_decide_eq_true rfl, ?_⟩
      have w3 := w2.put p q.sl q.qu q.vsl { st.ls with present := commitT st.ls.present (L.ad st.ls.head st.ls.place + 1) ids used } st.seq st.reg ((ext_new hp).trans hp2) w2.l.sl w2.l.rs w2.l.qu
      refine ⟨_, rfl, lg, _, q.dx, _, _, rfl, w3.h0, T.cG, T.nG_slots, rfl, _, rfl, lg, _, q.dx, _, _, rfl, w3.h0, T.cG, T.nG_present, rfl, _, rfl, ?_⟩
      refine ⟨q.sl, p, act, q.vsl, st.ls.slots, _, rfl, w3.hs, w3.hr, ls.s3, w3.hp, ha6, fun H4 p4 vs4 s4 hp4 hp5 r4 => ?_⟩
      have w4 := w3.new s4
      refine ⟨_, rfl, lg, _, q.dx, _, rfl, w4.h0, T.cG, T.nG_slots, of_decide_eq_true rfl, ?_⟩
      have r5 : All2 (SlR (ext (upd (ext H1 H H2) lg (.ins (CG K) q.dx (logF dv lay p q.sl st.ls.head st.ls.place q.qu st.seq st.reg q.cn))) (upd H2 lg (.ins (CG K) q.dx (logF dv lay p q.sl st.ls.head st.ls.place q.qu st.seq st.reg q.cn))) H4)) (slotsAfter st.ls.slots (commitT st.ls.present (L.ad st.ls.head st.ls.place + 1) ids used) act) vs4 := r4.mono fun o v z => by
        cases o with
        | none => exact z.1
        | some t =>
          obtain ⟨a, e, z1⟩ := z.1
          exact ⟨a, e, (ext_new (z.2 a e)).trans z1⟩
      have w5 := w4.put p p4 q.qu vs4 { st.ls with present := commitT st.ls.present (L.ad st.ls.head st.ls.place + 1) ids used, slots := slotsAfter st.ls.slots (commitT st.ls.present (L.ad st.ls.head st.ls.place + 1) ids used) act } st.seq st.reg w4.l.p ((ext_new hp4).trans hp5) r5 w4.l.qu
      refine ⟨_, rfl, lg, _, q.dx, _, _, rfl, w5.h0, T.cG, T.nG_place, rfl, _, _, rfl, rfl, _, rfl, _, _, rfl, rfl, _, rfl, lg, _, q.dx, _, rfl, w5.h0, T.cG, T.nG_place, of_decide_eq_true rfl, ?_⟩
      have w6 := w5.put p p4 q.qu vs4 { st.ls with present := commitT st.ls.present (L.ad st.ls.head st.ls.place + 1) ids used, slots := slotsAfter st.ls.slots (commitT st.ls.present (L.ad st.ls.head st.ls.place + 1) ids used) act, place := st.ls.place + 1 + ids.length } st.seq st.reg w5.l.p w5.l.sl w5.l.rs w5.l.qu
      have en : (nats ids).length = ids.length := nats_len ids
      have := k _ (w6.cls y)
      rw [← en] at this
      exact this
    | flat xs =>
      have hk1 : kind ≠ 1 := fun e => by have := hk.mpr e; cases this
      have hc1 : xs.length ≤ 1000 := bs.c
      have hb0 : H tb = some (.tup (nats xs)) := hb
      refine dF (fun z => hk1 (by injection z; omega)) ?_
      refine ⟨_, rfl, tb, _, rfl, .inr (SqT.of hb0), ?_⟩
      refine ⟨_, rfl, lg, _, q.dx, _, _, rfl, w.h0, T.cG, T.nG_present, rfl, _, rfl, _, rfl, ?_⟩
      refine ⟨q.pr, tb, st.ls.present, xs, L.ad st.ls.head st.ls.place + 1, rfl, w.hp, hb0, ls.tl _ tabs_p, hc1, fun H2 p s2 hp hp2 => ?_⟩
      have w2 := w.new s2
      refine ⟨_, rfl, lg, _, q.dx, _, rfl, w2.h0, T.cG, T.nG_present, of_decide_eq_true rfl, ?_⟩
      have w3 := w2.put p q.sl q.qu q.vsl { st.ls with present := moveT st.ls.present (L.ad st.ls.head st.ls.place + 1) xs } st.seq st.reg ((ext_new hp).trans hp2) w2.l.sl w2.l.rs w2.l.qu
      have htb : upd H2 lg (.ins (CG K) q.dx (logF dv lay p q.sl st.ls.head st.ls.place q.qu st.seq st.reg q.cn)) tb = some (.tup (nats xs)) := by
        rw [upd_ne (fun e => by rw [e, w.h0] at hb0; cases hb0)]
        exact s2 _ _ hb0
      let G := upd H2 lg (.ins (CG K) q.dx (logF dv lay p q.sl st.ls.head st.ls.place q.qu st.seq st.reg q.cn))
      let mvt := fun t => moveT t (L.ad st.ls.head st.ls.place + 1) xs
      have h3 := ls.s3
      have rs := w3.hr
      refine ⟨_, rfl, lg, _, q.dx, _, _, rfl, w3.h0, T.cG, T.nG_slots, rfl, q.sl, rfl, ⟨_, SqL.of w3.hs⟩, fun D hD => lc_list (K := K) (a := q.sl) (xs := q.vsl) (fun i H' => Same G H' ∧ ∃ acc, H' D = some (.lst acc) ∧ All2 (SlX D G H') ((st.ls.slots.map (Option.map mvt)).take i) acc)
        ⟨sN (sR G) hD, [], upd_same, by rw [List.take_zero]; exact .nil⟩ (fun i H' _ ⟨s5, _⟩ => SqL.of (s5 _ _ w3.hs)) ?_ ?_⟩
      · rintro i x H5 hx ⟨s5, acc, ha5, r5⟩
        have hlen : i < st.ls.slots.length := by rw [rs.1]; exact (List.getElem?_eq_some_iff.mp hx).1
        have ei : st.ls.slots[i]? = some st.ls.slots[i] := List.getElem?_eq_getElem hlen
        have em : (st.ls.slots.map (Option.map mvt))[i]? = some (Option.map mvt st.ls.slots[i]) := by rw [List.getElem?_map, ei]; rfl
        have ri := rs.2 i _ x ei hx
        have hal : acc.length < sizeLine := sz_lt (by rw [← r5.1, List.length_take, List.length_map]; omega)
        refine ⟨rfl, ?_⟩
        cases e : st.ls.slots[i] with
        | none =>
          rw [e] at ri ei em
          cases ri
          refine ⟨_, rfl, rfl, _, rfl, ?_⟩
          refine ⟨acc, ha5, hal, sM s5 hD, _, upd_same, ?_⟩
          rw [take_snoc em]
          exact All2.snoc (r5.mono fun o v z => z.put) ⟨⟨rfl, fun _ q => (by cases q)⟩, fun q => (by cases q)⟩
        | some u =>
          rw [e] at ri ei em
          obtain ⟨a, rfl, hq⟩ := ri
          refine ⟨_, rfl, rfl, _, rfl, ?_⟩
          refine ⟨_, rfl, _, rfl, _, rfl, a, tb, u, xs, L.ad st.ls.head st.ls.place + 1, rfl, s5 _ _ hq, s5 _ _ htb, ls.tl _ (tabs_s (List.mem_of_getElem? ei)), hc1, fun H6 a6 s6 hn6 ha6 => ?_⟩
          have npD : a6 ≠ D := fun e => by rw [e, ha5] at hn6; cases hn6
          refine ⟨acc, s6 _ _ ha5, hal, sM (sT s5 s6) hD, _, upd_same, ?_⟩
          rw [take_snoc em]
          refine All2.snoc (r5.mono fun o v z => SlX.put ⟨⟨z.1.1.same s6, z.1.2⟩, z.2⟩) ⟨⟨⟨a6, rfl, ?_⟩, fun a q => by cases q; exact sF s5 hn6⟩, fun q => npD (by injection q)⟩
          rw [upd_ne npD]
          exact ha6
      · rintro H5 ⟨s5, acc, ha5, r5⟩
        rw [List.take_of_length_le (by rw [List.length_map, rs.1]; exact Nat.le_refl _)] at r5
        have w4 := w3.new s5
        refine ⟨_, rfl, lg, _, q.dx, _, rfl, w4.h0, T.cG, T.nG_slots, of_decide_eq_true rfl, ?_⟩
        have r6 : All2 (SlR (ext (upd (ext H1 H H2) lg (.ins (CG K) q.dx (logF dv lay p q.sl st.ls.head st.ls.place q.qu st.seq st.reg q.cn))) G H5)) (st.ls.slots.map (Option.map mvt)) acc := r5.mono fun o v z => by
          cases o with
          | none => exact z.1.1
          | some t =>
            obtain ⟨a, e, z1⟩ := z.1.1
            exact ⟨a, e, (ext_new (z.1.2 a e)).trans z1⟩
        have w5 := w4.put p D q.qu acc { st.ls with present := mvt st.ls.present, slots := st.ls.slots.map (Option.map mvt) } st.seq st.reg w4.l.p ((ext_new hD).trans ha5) r6 w4.l.qu
        refine ⟨_, rfl, lg, _, q.dx, _, _, rfl, w5.h0, T.cG, T.nG_place, rfl, _, _, rfl, rfl, _, rfl, _, _, rfl, rfl, _, rfl, lg, _, q.dx, _, rfl, w5.h0, T.cG, T.nG_place, of_decide_eq_true rfl, ?_⟩
        have w6 := w5.put p D q.qu acc { st.ls with present := mvt st.ls.present, slots := st.ls.slots.map (Option.map mvt), place := st.ls.place + 1 + xs.length } st.seq st.reg w5.l.p w5.l.sl w5.l.rs w5.l.qu
        have en : (nats xs).length = xs.length := nats_len xs
        have := k _ (w6.cls y)
        rw [← en] at this
        exact this
end

end K30

namespace K30
open PySem PySem.Spec PyProof.Rows L2
/-! ## W11: writing batches -/
open K30X
theorem writes_app : ∀ (ws vs : List (Nat × Blk)) (d : Dev), d.writes (ws ++ vs) = (d.writes ws).writes vs
  | [], _, _ => rfl
  | w :: r, vs, d => writes_app r vs (d.write w.1 w.2)
theorem write_len (d : Dev) (a : Nat) (b : Blk) : (d.write a b).seen.length = d.seen.length := by
  show (d.tick.seen.set a (some b)).length = _
  rw [List.length_set, tick_seen]
theorem writes_slen : ∀ (ws : List (Nat × Blk)) (d : Dev), (d.writes ws).seen.length = d.seen.length
  | [], _ => rfl
  | w :: r, d => (writes_slen r _).trans (write_len d w.1 w.2)
theorem write_dk {d : Dev} {a : Nat} {b : Blk} (h : (d.write a b).dark = false) : d.dark = false ∧ (d.write a b).waiting.length = d.waiting.length + 1 := by
  have h1 : d.tick.dark = false := h
  have h2 : d.dark = false := by
    cases q : d.dark with
    | false => rfl
    | true => rw [tick_dark d q] at h1; cases h1
  refine ⟨h2, ?_⟩
  show (if d.tick.dark = true then d.tick.waiting else d.tick.waiting ++ [(a, b)]).length = _
  rw [h1, if_neg Bool.false_ne_true, List.length_append, tick_wait]; rfl
theorem writes_dk : ∀ (ws : List (Nat × Blk)) (d : Dev), (d.writes ws).dark = false → d.dark = false ∧ (d.writes ws).waiting.length = d.waiting.length + ws.length
  | [], d, h => ⟨h, rfl⟩
  | w :: r, d, h => by
    obtain ⟨h1, h2⟩ := writes_dk r (d.write w.1 w.2) h
    obtain ⟨h3, h4⟩ := write_dk h1
    refine ⟨h3, ?_⟩
    show ((d.write w.1 w.2).writes r).waiting.length = _
    rw [h2, h4, List.length_cons]; omega
theorem payWs_snoc (start seq : Nat) (p : Pay) : ∀ (xs : List Pay) (k : Nat), payWs start seq k (xs ++ [p]) = payWs start seq k xs ++ [(start + (k + xs.length + 1), ⟨p.1, seq, k + xs.length + 1, .flat p.2⟩)]
  | [], k => rfl
  | x :: r, k => by
    show _ :: payWs start seq (k + 1) (r ++ [p]) = _ :: (payWs start seq (k + 1) r ++ _)
    rw [payWs_snoc start seq p r (k + 1), List.length_cons, show k + 1 + r.length + 1 = k + (r.length + 1) + 1 by omega]
theorem batchWs_snoc {start : Nat} {b : Blk} {pays : List Pay} {i : Nat} {p : Pay} (h : pays[i]? = some p) : batchWs start b (pays.take (i + 1)) = batchWs start b (pays.take i) ++ [(start + (i + 1), ⟨p.1, b.seq, i + 1, .flat p.2⟩)] := by
  have hl : i < pays.length := (List.getElem?_eq_some_iff.mp h).1
  unfold batchWs
  rw [take_snoc h, payWs_snoc, List.length_take, Nat.min_eq_left (by omega), Nat.zero_add]; rfl
theorem batchWs_len {start : Nat} {b : Blk} {pays : List Pay} : (batchWs start b pays).length = 1 + pays.length := by
  have : ∀ (xs : List Pay) (k : Nat), (payWs start b.seq k xs).length = xs.length := fun xs => by
    induction xs with
    | nil => intro k; rfl
    | cons x r ih => intro k; show (payWs start b.seq (k + 1) r).length + 1 = _; rw [ih]; rfl
  show (payWs start b.seq 0 pays).length + 1 = _
  rw [this]; omega
section
variable {P : Program} {w : World} {K : PySem.W.Frag} {mg : Str → Option Value} {base : Heap}
def sp_write_batch (K : PySem.W.Frag) : Sp := fun vs H Q _ => ∃ (lg dv lay : Addr) (H0 : Hp) (L : Lay) (st : St) (kind : Nat) (tb pl : Addr) (b : Body) (vps : List V) (pays : List Pay), vs = [.ref lg, .int (kind : Int), .ref tb, .ref pl] ∧ LogO K H0 H lg dv lay L st ∧ L.Ok ∧ H0 tb ≠ none ∧ BodyR H0 tb b ∧ H0 pl = some (.lst vps) ∧ All2 (PayR H0) pays vps ∧
  (isCom b = true ↔ kind = 1) ∧ b.Sm ∧ st.ls.Sm ∧ st.dev.seen.length = L.db ∧ st.ls.head < L.segs ∧ st.ls.place + pays.length < L.blks ∧ (st.dev.dark = false → st.dev.waiting.length < 80000) ∧
  ∀ H', LogO K H0 H' lg dv lay L (writeBatch L st kind b pays) → Q .non H'
theorem sc_write_batch : FnScope ["log", "kind", "body", "payloads", "sequence", "start", "number", "payload"] ["log", "kind", "body", "payloads"] (defScope s_write_batch) := ⟨rfl, rfl, rfl, by decide +kernel, rfl, by decide +kernel, by decide +kernel⟩
theorem cal_write_batch (T : Txt K mg) (F : FD K mg "write_batch" s_write_batch) (c_next_sequence : C8.Cal P w K mg base 1 "next_sequence" (sp_next_sequence K) []) (c_address_at : C8.Cal P w K mg base 1 "address_at" (sp_address_at K) []) (c_stamped : C8.Cal P w K mg base 1 "stamped" (sp_stamped K) []) (c_take_batch : C8.Cal P w K mg base 2 "take_batch" (sp_take_batch K) []) (c_Device_write : C8.Met P w K mg base 2 (CD K) "write" (sp_Device_write K) []) : C8.Cal P w K mg base 3 "write_batch" (sp_write_batch K) [] := by
  obtain ⟨f, fd, F, hm⟩ := F
  refine ⟨f, fd, _, _, F.ok sc_write_batch (fun vs H Q E h => ?_) (fun cdv A outer s H vs Q E hr h => ?_), hm, F.kp, F.bindsN (fun _ _ _ _ _ _ us hl => match us, hl with | [_, _, _, _], _ => rfl), .nil⟩
  · obtain ⟨_, _, _, _, _, _, _, _, _, _, _, _, rfl, _⟩ := h
    rfl
  · obtain ⟨lg, dv, lay, H0, L, st, kind, tb, pl, b, vps, pays, rfl, h, O, ht0, hb, hpl, hps, hk, bs, ls, hsn, hhd, hfit, hwt, k⟩ := h
    refine ⟨_, PSs.nox (pss_cons (ps_set (i := 4) sc_write_batch.nd rfl (Or.inl rfl) (C8.pe_c c_next_sequence hr (by decide) (by rfl) (pa_cons (pv 0) pa_nil)))
      (pss_cons (ps_set (i := 5) sc_write_batch.nd rfl (Or.inl rfl) (C8.pe_c c_address_at hr (by decide) (by rfl) (pa_cons (pe_fld (pv 0) rfl) (pa_cons (pe_fld (pv 0) rfl) (pa_cons (pe_fld (pv 0) rfl) pa_nil)))))
      (pss_cons (ps_expr (C8.pe_mt c_Device_write hr (by decide) (pe_fld (pv 0) rfl) (pa_cons (pv 5) (pa_cons (pe_tup (pa_cons (pv 1) (pa_cons (pv 4) (pa_cons pe_int (pa_cons (pv 2) pa_nil))))) pa_nil))))
      (pss_cons (ps_for PassesOwn.never rfl (pi_enum (by rfl) T.b_enumerate (pa_cons (pv 3) pa_nil)) (pg_tup rfl (pgs_cons (pg_name (i := 6) sc_write_batch.nd rfl (Or.inl rfl)) (pgs_cons (pg_name (i := 7) sc_write_batch.nd rfl (Or.inl rfl)) pgs_nil))) (pss_one (ps_expr (C8.pe_mt c_Device_write hr (by decide) (pe_fld (pv 0) rfl) (pa_cons (pe_op op_add (pe_op op_add (pv 5) pe_int) (pv 6)) (pa_cons (C8.pe_c c_stamped hr (by decide) (by rfl) (pa_cons (pv 7) (pa_cons (pv 4) (pa_cons (pe_op op_add (pv 6) pe_int) pa_nil)))) pa_nil))))))
      (pss_one (ps_expr (C8.pe_c c_take_batch hr (by decide) (by rfl) (pa_cons (pv 0) (pa_cons (pv 1) (pa_cons (pv 2) pa_nil)))))))))), ?_⟩
    refine ⟨_, rfl, lg, dv, lay, H0, L, st, rfl, h, fun H2 h2 => ?_⟩
    obtain ⟨H1, q, w, y⟩ := h2.opn
    obtain ⟨dl, hl⟩ := w.hl y
    refine ⟨_, rfl, lg, _, q.dx, _, _, rfl, w.h0, T.cG, T.nG_layout, rfl, _, rfl, lg, _, q.dx, _, _, rfl, w.h0, T.cG, T.nG_head, rfl, _, rfl, lg, _, q.dx, _, _, rfl, w.h0, T.cG, T.nG_place, rfl, ?_⟩
    refine ⟨lay, st.ls.head, st.ls.place, L, rfl, ⟨dl, hl⟩, O, ?_⟩
    obtain ⟨dp, hdp⟩ := w.hd
    refine ⟨_, rfl, lg, _, q.dx, _, _, rfl, w.h0, T.cG, T.nG_device, rfl, dv, _, _, rfl, hdp, rfl, ?_⟩
    refine ⟨_, rfl, _, rfl, _, rfl, _, rfl, by show 4 ≤ sizeLine; decide, fun t0 ht => ?_⟩
    let A0 := L.ad st.ls.head st.ls.place
    let b0 : Blk := ⟨kind, st.seq + 1, 0, b⟩
    have hA : ∀ i, i ≤ pays.length → A0 + i < L.db := fun i hi => by
      show L.ad st.ls.head st.ls.place + i < _
      rw [ad_add]; exact ad_lt hhd (by omega)
    have w0 := w.new (sN (o := .tup [.int (kind : Int), .int ((st.seq + 1 : Nat) : Int), .int ((0 : Nat) : Int), .ref tb]) (sR _) ht)
    have hpn : pays.length ≤ 32 := by have := O.b32; omega
    refine ⟨dv, lay, _, st.dev, A0, b0, t0, rfl, w0.d, by have := hA 0 (Nat.zero_le _); rw [hsn]; exact this, fun q => by have := hwt q; omega, fun e => (by rw [(ext_new ht).trans upd_same] at e; cases e), ⟨tb, (ext_new ht).trans upd_same, hb.tk (TK.of w0.l.s)⟩, fun H3 d3 => ?_⟩
    have w1 : LogW K H0 _ H3 lg dv lay { st with dev := st.dev.writes (batchWs A0 b0 (pays.take 0)), seq := st.seq + 1 } q := ⟨d3, w0.l⟩
    refine ⟨_, rfl, pl, _, rfl, SqL.of (w1.fr _ _ (w1.l.s _ _ hpl)), for_it walk_enum (fun i σ H' => ∃ (v6 v7 : Option V) (F : Hp) (q' : LogP), σ = [some (.ref lg), some (.int (kind : Int)), some (.ref tb), some (.ref pl), some (.int ((st.seq + 1 : Nat) : Int)), some (.int (A0 : Int)), v6, v7] ∧ LogW K H0 F H' lg dv lay { st with dev := st.dev.writes (batchWs A0 b0 (pays.take i)), seq := st.seq + 1 } q')
      ⟨none, none, _, q, rfl, w1⟩ (fun i σ H' _ ⟨_, _, F, q', _, w'⟩ => SqL.of (w'.fr _ _ (w'.l.s _ _ hpl))) ?_ ?_⟩
    · rintro i x σ H4 H5 hlt ⟨v6, v7, F, q', rfl, w4⟩ ⟨T0, a, b', rfl, hT, rfl, ea, eb⟩
      cases ea
      have hil : i < pays.length := by rw [hps.1]; exact hlt
      have epi : pays[i]? = some pays[i] := List.getElem?_eq_getElem hil
      obtain ⟨tp, tq, rfl, htp, htq⟩ := hps.2 i _ _ epi eb
      have w5 := w4.new (sN (o := .tup [.int (i : Nat), .ref tp]) (sR _) hT)
      obtain ⟨dp5, hdp5⟩ := w5.hd
      refine ⟨T0, _, rfl, SqT.of upd_same, rfl, _, _, rfl, ?_⟩
      refine ⟨_, _, rfl, rfl, ?_⟩
      refine ⟨_, rfl, lg, _, q'.dx, _, _, rfl, w5.h0, T.cG, T.nG_device, rfl, dv, _, _, rfl, hdp5, rfl, ?_⟩
      refine ⟨_, rfl, _, _, rfl, rfl, _, rfl, _, _, rfl, rfl, ?_⟩
      refine ⟨_, rfl, _, rfl, _, rfl, _, _, rfl, rfl, ?_⟩
      refine ⟨tp, tq, pays[i].1, st.seq + 1, i + 1, rfl, w5.fr _ _ (w5.l.s _ _ htp), fun t1 ht1 => ?_⟩
      have w6 := w5.new (sN (o := .tup [.int (pays[i].1 : Int), .int ((st.seq + 1 : Nat) : Int), .int ((i + 1 : Nat) : Int), .ref tq]) (sR _) ht1)
      refine ⟨dv, lay, _, _, A0 + (i + 1), ⟨pays[i].1, st.seq + 1, i + 1, .flat pays[i].2⟩, t1, ?_, w6.d, ?_, fun q => ?_, fun e => (by rw [(ext_new ht1).trans upd_same] at e; cases e), ⟨tq, (ext_new ht1).trans upd_same, w6.l.s _ _ htq⟩, fun H6 d6 => ?_⟩
      · have : ((A0 : Nat) : Int) + 1 + ((i : Nat) : Int) = ((A0 + (i + 1) : Nat) : Int) := by omega
        show [V.ref dv, V.int (((A0 : Nat) : Int) + 1 + ((i : Nat) : Int)), V.ref t1] = _
        rw [this]
      · show _ < (st.dev.writes _).seen.length
        rw [writes_slen, hsn]
        exact hA (i + 1) (by omega)
      · obtain ⟨z1, z2⟩ := writes_dk _ _ q
        have := hwt z1
        rw [z2, batchWs_len, List.length_take]
        omega
      · have e7 : st.dev.writes (batchWs A0 b0 (pays.take (i + 1))) = (st.dev.writes (batchWs A0 b0 (pays.take i))).write (A0 + (i + 1)) ⟨pays[i].1, st.seq + 1, i + 1, .flat pays[i].2⟩ := by
          rw [batchWs_snoc epi, writes_app]; rfl
        have w7 : LogW K H0 _ H6 lg dv lay { st with dev := (st.dev.writes (batchWs A0 b0 (pays.take i))).write (A0 + (i + 1)) ⟨pays[i].1, st.seq + 1, i + 1, .flat pays[i].2⟩, seq := st.seq + 1 } q' := ⟨d6, w6.l⟩
        rw [← e7] at w7
        exact ⟨_, _, _, q', rfl, w7⟩
    · rintro σ H4 ⟨v6, v7, F, q', rfl, w4⟩
      rw [← hps.1, List.take_length] at w4
      refine ⟨_, rfl, _, rfl, _, rfl, ?_⟩
      exact ⟨lg, dv, lay, H0, L, _, kind, tb, b, rfl, w4.cls y, O, hb.tk (TK.of fun b o e => w4.fr _ _ (w4.l.s b o e)), hk, bs, ls, fun H5 h5 => k _ h5⟩
end

end K30

namespace K30
open PySem PySem.Spec PyProof.Rows L2
/-! ## W12: commits and moves -/
open K30X
section
variable {P : Program} {w : World} {K : PySem.W.Frag} {mg : Str → Option Value} {base : Heap}
theorem LogO.shrink {H0 H0' H : Hp} {lg dv lay : Addr} {L : Lay} {st : St} (h : LogO K H0' H lg dv lay L st) (s : Same H0 H0') (y : LayAt K H0 lay L) : LogO K H0 H lg dv lay L st := by
  obtain ⟨H1, q, w, _⟩ := h.opn
  exact ⟨H1, q, w.d, ⟨sT s w.l.s, sF s w.l.n0, sF s w.l.n1, w.l.g0, w.l.g1, w.l.d01, w.l.p, w.l.sl, w.l.rs, w.l.qu⟩, y⟩
theorem LogO.lay0 {H0 H : Hp} {lg dv lay : Addr} {L : Lay} {st : St} (h : LogO K H0 H lg dv lay L st) : LayAt K H0 lay L := let ⟨_, _, _, _, c⟩ := h.ex; c
/-- H0 and all tuples of H -/
def extT (H0 H : Hp) : Hp := fun a => match H a with
  | some (.tup xs) => some (.tup xs)
  | _ => H0 a
theorem extT_tup {H0 H : Hp} {a : Addr} {xs : List V} (h : H a = some (.tup xs)) : extT H0 H a = some (.tup xs) := by unfold extT; rw [h]
theorem extT_not {H0 H : Hp} {a : Addr} {o : HO} (h : H a = some o) (n : ∀ xs, o ≠ .tup xs) : extT H0 H a = H0 a := by
  unfold extT
  rw [h]
  cases o <;> first | rfl | exact absurd rfl (n _)
theorem extT_same {H0 H : Hp} (s : Same H0 H) : Same H0 (extT H0 H) := fun a o e => by
  have e1 := s _ _ e
  cases o with
  | tup xs => exact extT_tup e1
  | _ => rw [extT_not e1 (fun xs z => by cases z)]; exact e
theorem extT_in {H0 H : Hp} (s : Same H0 H) : Same (extT H0 H) H := fun a o e => by
  unfold extT at e
  split at e
  · rename_i xs h; rw [h]; exact e
  · exact s _ _ e
theorem extT_mono {H0 H1 H : Hp} (s : Same H0 H1) : Same (extT H0 H) (extT H1 H) := fun a o e => by
  unfold extT at e ⊢
  split
  · rename_i xs h; rw [h] at e; exact e
  · rename_i h
    split at e
    · rename_i xs h2; exact absurd h2 (h xs)
    · exact s _ _ e
theorem LogO.tups {H0 H : Hp} {lg dv lay : Addr} {L : Lay} {st : St} (h : LogO K H0 H lg dv lay L st) : LogO K (extT H0 H) H lg dv lay L st := by
  obtain ⟨H1, q, w, y⟩ := h.opn
  obtain ⟨p, hd⟩ := w.d
  have fr := w.fr
  have ex : ∀ {a : Addr} {o : HO}, H1 a = some o → (∀ xs, o ≠ .tup xs) → extT H1 H a = some o := fun {a o} e n => (extT_not (fr _ _ e) n).trans e
  have sl : ∀ {o v}, SlR H1 o v → SlR (extT H1 H) o v := fun {o v} z => by
    cases o with
    | none => exact z
    | some t => obtain ⟨p, e, z⟩ := z; exact ⟨p, e, ex z fun _ q => (by cases q)⟩
  refine ⟨extT H1 H, q, ⟨p, hd.side (extT_in hd.s) ((extT_not hd.h0 fun _ q => (by cases q)).trans hd.n0) ((extT_not hd.h1 fun _ q => (by cases q)).trans hd.n1) ((extT_not hd.h2 fun _ q => (by cases q)).trans hd.n2) ((extT_not hd.h3 fun _ q => (by cases q)).trans hd.n3) (TK.refl H) rfl rfl rfl rfl⟩,
    ⟨extT_mono w.l.s, (extT_not w.h0 fun _ q => (by cases q)).trans w.l.n0, (extT_not w.hc fun _ q => (by cases q)).trans w.l.n1, ex w.l.g0 fun _ q => (by cases q), ex w.l.g1 fun _ q => (by cases q), w.l.d01, ex w.l.p fun _ q => (by cases q), ex w.l.sl fun _ q => (by cases q), w.l.rs.mono fun _ _ z => sl z, ex w.l.qu fun _ q => (by cases q)⟩, ?_⟩
  obtain ⟨dl, hl⟩ := y
  exact ⟨dl, (extT_not (h.frame _ _ hl) fun _ q => (by cases q)).trans hl⟩
/-- the state as the small steps ask it -/
structure St.Fit (L : Lay) (st : St) : Prop where
  ls : st.ls.Sm
  sn : st.dev.seen.length = L.db
  hr : ∀ g ∈ st.ls.head :: st.ls.queue, g < L.segs
  pl : st.ls.place ≤ L.blks
  wt : st.dev.dark = false → st.dev.waiting.length < 80000
theorem enter_sm {ls : LS} (h : ls.Sm) : (enter ls).Sm := ⟨h.s3, h.tl⟩
theorem St.Fit.enter {L : Lay} {st : St} (h : st.Fit L) (hq : st.ls.queue ≠ []) : (enterSt st).Fit L ∧ (enterSt st).ls.head < L.segs := by
  obtain ⟨x, r, e⟩ : ∃ x r, st.ls.queue = x :: r := by
    cases e : st.ls.queue with
    | nil => exact absurd e hq
    | cons x r => exact ⟨x, r, rfl⟩
  have e2 : (enterSt st).ls = { st.ls with head := x, queue := r, place := 0 } := by show K30.enter st.ls = _; unfold K30.enter; rw [e]; rfl
  refine ⟨⟨enter_sm h.ls, h.sn, fun g hg => ?_, by rw [e2]; exact Nat.zero_le _, h.wt⟩, by rw [e2]; exact h.hr x (by rw [e]; simp)⟩
  rw [e2] at hg
  exact h.hr g (by rw [e]; exact List.mem_cons_of_mem _ hg)
def sp_append_commit (K : PySem.W.Frag) : Sp := fun vs H Q _ => ∃ (lg dv lay : Addr) (H0 : Hp) (L : Lay) (st : St) (i pl u : Addr) (ids used : List Nat) (act : Nat) (vps : List V) (pays : List Pay), vs = [.ref lg, .ref i, .ref pl, .ref u, .int (act : Int)] ∧ LogO K H0 H lg dv lay L st ∧ L.Ok ∧
  H0 i = some (.lst (nats ids)) ∧ H0 u = some (.lst (nats used)) ∧ H0 pl = some (.lst vps) ∧ All2 (PayR H0) pays vps ∧ pays.length = ids.length ∧ ids.length ≤ 1000 ∧ used.length ≤ 1000 ∧ act ≤ 6 ∧ st.Fit L ∧
  (appendCommit L st ids pays used act = none → ∀ H', LogO K H0 H' lg dv lay L st → Q (.bl false) H') ∧ (∀ st', appendCommit L st ids pays used act = some st' → ∀ H', LogO K H0 H' lg dv lay L st' → Q (.bl true) H')
/-- from the batch on -/
theorem commit_end {H0 H : Hp} {lg dv lay : Addr} {L : Lay} {st : St} {Q : Hp → Prop} {n : Int} (T : Txt K mg) (h : LogO K H0 H lg dv lay L st) (k : ∀ H', LogO K H0 H' lg dv lay L st → Q H') : True := trivial
theorem sc_append_commit : FnScope ["log", "ids", "payloads", "used", "action", "wanted"] ["log", "ids", "payloads", "used", "action"] (defScope s_append_commit) := ⟨rfl, rfl, rfl, by decide +kernel, rfl, by decide +kernel, by decide +kernel⟩
theorem cal_append_commit (T : Txt K mg) (F : FD K mg "append_commit" s_append_commit) (c_enter_segment : C8.Cal P w K mg base 1 "enter_segment" (sp_enter_segment K) []) (c_write_batch : C8.Cal P w K mg base 3 "write_batch" (sp_write_batch K) []) : C8.Cal P w K mg base 4 "append_commit" (sp_append_commit K) [] := by
  obtain ⟨f, fd, F, hm⟩ := F
  refine ⟨f, fd, _, _, F.ok sc_append_commit (fun vs H Q E h => ?_) (fun cdv A outer s H vs Q E hr h => ?_), hm, F.kp, F.bindsN (fun _ _ _ _ _ _ us hl => match us, hl with | [_, _, _, _, _], _ => rfl), .nil⟩
  · obtain ⟨_, _, _, _, _, _, _, _, _, _, _, _, _, _, rfl, _⟩ := h
    rfl
  · obtain ⟨lg, dv, lay, H0, L, st, i, pl, u, ids, used, act, vps, pays, rfl, h, O, hi, hu, hpl, hps, hlen, hi1, hu1, ha, F, k0, k1⟩ := h
    obtain ⟨H1, q, w, y⟩ := h.opn
    obtain ⟨dl, hl⟩ := w.hl y
    have hiH := h.frame _ _ hi
    refine ⟨_, PSs.nox (pss_cons (ps_set (i := 5) sc_append_commit.nd rfl (Or.inl rfl) (pe_op op_add pe_int (pe_callB call_len_seq (by rfl) T.b_len PySem.boot_len (pa_cons (pv 1) pa_nil))))
      (C8.pss_cut (ps_if (pt_cmpR op_gt (pe_op op_add (pe_fld (pv 0) rfl) (pv 5)) (pe_fld (pe_fld (pv 0) rfl) rfl) (nomark _)) (pss_cons (ps_if (PW.pt (pw_or (pt_cmpR op_eq (pe_callB call_len_seq (by rfl) T.b_len PySem.boot_len (pa_cons (pe_fld (pv 0) rfl) pa_nil)) pe_int (nomark _)) (pw_or1 (pt_cmpR op_gt (pv 5) (pe_fld (pe_fld (pv 0) rfl) rfl) (nomark _))))) (pss_one (ps_ret pe_bl)) pss_nil)
      (pss_one (ps_expr (C8.pe_c c_enter_segment hr (by decide) (by rfl) (pa_cons (pv 0) pa_nil))))) pss_nil)
      (pss_cons (ps_expr (C8.pe_c c_write_batch hr (by decide) (by rfl) (pa_cons (pv 0) (pa_cons (pe_gi T.i_COMMIT rfl) (pa_cons (pe_tup (pa_cons (pe_callTy call_tuple_of (by rfl) T.b_tuple (by decide +kernel) (pa_cons (pv 1) pa_nil)) (pa_cons (pe_callTy call_tuple_of (by rfl) T.b_tuple (by decide +kernel) (pa_cons (pv 3) pa_nil)) (pa_cons (pv 4) pa_nil)))) (pa_cons (pv 2) pa_nil))))))
      (pss_cons (ps_fld (pe_fld (pv 0) rfl) (pe_op op_add (pe_fld (pe_fld (pv 0) rfl) rfl) pe_int) rfl)
      (pss_cons (ps_fld (pe_fld (pv 0) rfl) (pe_op op_add (pe_fld (pe_fld (pv 0) rfl) rfl) (pv 5)) rfl)
      (pss_one (ps_ret pe_bl))))))), ?_⟩
    refine ⟨_, rfl, i, _, rfl, .inl (SqL.of hiH), _, _, rfl, rfl, ?_⟩
    have en : (nats ids).length = ids.length := nats_len ids
    rw [en]
    have eq0 : (nats st.ls.queue).length = st.ls.queue.length := nats_len _
    refine ⟨fun σ H' => ∃ st1, σ = [some (.ref lg), some (.ref i), some (.ref pl), some (.ref u), some (.int (act : Int)), some (.int (1 + (ids.length : Int)))] ∧ LogO K H0 H' lg dv lay L st1 ∧ st1.Fit L ∧ st1.ls.place + ids.length < L.blks ∧ appendCommit L st ids pays used act = some (writeBatch L st1 1 (.com ids used act) pays), ?_, ?_⟩
    · refine ⟨_, rfl, lg, _, q.dx, _, _, rfl, w.h0, T.cG, T.nG_place, rfl, _, rfl, _, _, rfl, rfl, ?_⟩
      refine ⟨_, rfl, lg, _, q.dx, _, _, rfl, w.h0, T.cG, T.nG_layout, rfl, lay, _, dl, _, _, rfl, hl, T.cL, T.nL_segment_blocks, rfl, _, _, rfl, rfl, _, rfl, ?_⟩
      by_cases c : L.blks < st.ls.place + (1 + ids.length)
      · refine dT (by omega) ?_
        refine ⟨_, rfl, lg, _, q.dx, _, _, rfl, w.h0, T.cG, T.nG_queue, rfl, q.qu, _, rfl, .inl (SqL.of w.hq), rfl, _, rfl, ?_⟩
        rw [eq0]
        by_cases c2 : st.ls.queue = []
        · refine dT (show V.int ((st.ls.queue.length : Nat) : Int) = V.int 0 by rw [c2]; rfl) ?_
          exact iteT (k0 (by unfold appendCommit; rw [if_pos c, if_pos (.inl c2)]) _ h)
        · refine dF (fun z => c2 (List.eq_nil_of_length_eq_zero (by injection z; omega))) ?_
          refine ⟨_, rfl, _, rfl, lg, _, q.dx, _, _, rfl, w.h0, T.cG, T.nG_layout, rfl, lay, _, dl, _, _, rfl, hl, T.cL, T.nL_segment_blocks, rfl, _, _, rfl, rfl, _, rfl, ?_⟩
          by_cases c3 : L.blks < 1 + ids.length
          · refine dT (by omega) ?_
            exact k0 (by unfold appendCommit; rw [if_pos c, if_pos (.inr c3)]) _ h
          · refine dF (by omega) ?_
            refine ⟨_, rfl, lg, dv, lay, H0, L, st, rfl, h, c2, fun H2 h2 => ?_⟩
            obtain ⟨F2, hh2⟩ := F.enter c2
            refine ⟨enterSt st, rfl, h2, F2, ?_, ?_⟩
            · show 0 + ids.length < _; omega
            · unfold appendCommit; rw [if_pos c, if_neg (fun z => z.elim c2 c3)]
      · refine dF (by omega) ?_
        refine ⟨st, rfl, h, F, by omega, ?_⟩
        unfold appendCommit; rw [if_neg c]
    · rintro σ H2 ⟨st1, rfl, h2, F2, hfit, eap⟩
      refine ⟨_, rfl, _, rfl, i, _, rfl, .inl ⟨SqL.of (h2.frame _ _ hi), fun t1 ht1 => ?_⟩⟩
      have s1 : Same H2 (upd H2 t1 (.tup (nats ids))) := sN (sR _) ht1
      refine ⟨_, rfl, u, _, rfl, .inl ⟨SqL.of (s1 _ _ (h2.frame _ _ hu)), fun t2 ht2 => ?_⟩⟩
      have s2 : Same H2 (upd (upd H2 t1 (.tup (nats ids))) t2 (.tup (nats used))) := sN s1 ht2
      refine ⟨_, rfl, by show 3 ≤ sizeLine; decide, fun tb htb => ?_⟩
      let G := upd (upd (upd H2 t1 (.tup (nats ids))) t2 (.tup (nats used))) tb (.tup [.ref t1, .ref t2, .int (act : Int)])
      have s3 : Same H2 G := sN s2 htb
      have h3 := h2.ext s3
      have ef : Same H0 (ext H0 H2 G) := ext_same h2.frame
      have n2 : H2 t2 = none := sF s1 ht2
      have nb : H2 tb = none := sF s2 htb
      have g1 : G t1 = some (.tup (nats ids)) := uN (uN upd_same ht2) htb
      have g2 : G t2 = some (.tup (nats used)) := uN upd_same htb
      have hbb : BodyR (ext H0 H2 G) tb (.com ids used act) := ⟨t1, t2, (ext_new nb).trans upd_same, (ext_new ht1).trans g1, (ext_new n2).trans g2⟩
      refine ⟨_, rfl, ?_⟩
      refine ⟨lg, dv, lay, _, L, st1, 1, tb, pl, .com ids used act, vps, pays, rfl, h3, O, fun e => (by rw [(ext_new nb).trans upd_same] at e; cases e), hbb, ef _ _ hpl, hps.mono fun _ _ z => z.tk (TK.of ef), ⟨fun _ => rfl, fun _ => rfl⟩, ⟨hi1, fun _ _ _ e => by cases e; exact ⟨ha, hu1⟩⟩, F2.ls, F2.sn, F2.hr _ List.mem_cons_self, by rw [hlen]; exact hfit, F2.wt, fun H4 h4 => ?_⟩
      obtain ⟨H5, q5, w5, y5⟩ := h4.opn
      refine ⟨_, rfl, lg, _, q5.dx, _, _, rfl, w5.h0, T.cG, T.nG_counts, rfl, q5.cn, _, q5.dc, _, _, rfl, w5.hc, T.cC, T.nC_commits, rfl, _, _, rfl, rfl, ?_⟩
      refine ⟨_, rfl, lg, _, q5.dx, _, _, rfl, w5.h0, T.cG, T.nG_counts, rfl, q5.cn, _, q5.dc, _, rfl, w5.hc, T.cC, T.nC_commits, of_decide_eq_true rfl, ?_⟩
      have w6 := w5.cnt (q5.c1 + 1) q5.c2 q5.c3 q5.c4 q5.c5 q5.c6 q5.c7
      refine ⟨_, rfl, lg, _, q5.dx, _, _, rfl, w6.h0, T.cG, T.nG_counts, rfl, q5.cn, _, q5.dc, _, _, rfl, w6.hc, T.cC, T.nC_commit_blocks, rfl, _, rfl, _, _, rfl, rfl, ?_⟩
      refine ⟨_, rfl, lg, _, q5.dx, _, _, rfl, w6.h0, T.cG, T.nG_counts, rfl, q5.cn, _, q5.dc, _, rfl, w6.hc, T.cC, T.nC_commit_blocks, of_decide_eq_true rfl, ?_⟩
      have w7 := w6.cnt (q5.c1 + 1) (q5.c2 + (1 + (ids.length : Int))) q5.c3 q5.c4 q5.c5 q5.c6 q5.c7
      exact k1 _ eap _ (LogO.shrink (w7.cls y5) ef y)
theorem All2.tail {α β : Type} {R : α → β → Prop} {x : α} {y : β} {xs : List α} {ys : List β} (h : All2 R (x :: xs) (y :: ys)) : R x y ∧ All2 R xs ys :=
  ⟨h.2 0 x y rfl rfl, by have := h.1; simpa using this, fun i a b h1 h2 => h.2 (i + 1) a b (by simpa using h1) (by simpa using h2)⟩
theorem paysAt_any {H : Hp} {rd : Rd} : ∀ {xs : List Nat} {acc : List V}, All2 (fun n v => OPR H (payAt rd n) v) xs acc → (paysAt rd xs = none ∧ acc.any isNon = true) ∨ ∃ ps, paysAt rd xs = some ps ∧ acc.any isNon = false ∧ All2 (PayR H) ps acc
  | [], [], _ => .inr ⟨[], rfl, rfl, .nil⟩
  | [], v :: acc, h => by have := h.1; simp at this
  | x :: xs, [], h => by have := h.1; simp at this
  | x :: xs, v :: acc, h => by
    obtain ⟨h1, h2⟩ := h.tail
    unfold paysAt
    rw [List.any_cons]
    cases e : payAt rd x with
    | none =>
      rw [e] at h1
      have : v = .non := h1
      subst this
      exact .inl ⟨rfl, rfl⟩
    | some p =>
      rw [e] at h1
      have hv : isNon v = false := by obtain ⟨t, tb, rfl, _⟩ := (show PayR H p v from h1); rfl
      rw [hv, Bool.false_or]
      rcases paysAt_any h2 with ⟨e1, e2⟩ | ⟨ps, e1, e2, e3⟩
      · rw [e1]; exact .inl ⟨rfl, e2⟩
      · rw [e1]; exact .inr ⟨p :: ps, rfl, e2, .cons h1 e3⟩
def sp_append_move (K : PySem.W.Frag) : Sp := fun vs H Q _ => ∃ (lg dv lay : Addr) (H0 : Hp) (L : Lay) (st : St) (a : Addr) (xs : List Nat), vs = [.ref lg, .ref a] ∧ LogO K H0 H lg dv lay L st ∧ L.Ok ∧
  H0 a = some (.lst (nats xs)) ∧ xs.length ≤ 1000 ∧ st.Fit L ∧ (∀ c b, st.rd c = some b → b.Wt L) ∧
  (appendMove L st xs = none → ∀ H', LogO K H0 H' lg dv lay L st → Q (.bl false) H') ∧ (∀ st', appendMove L st xs = some st' → ∀ H', LogO K H0 H' lg dv lay L st' → Q (.bl true) H')
theorem sc_append_move : FnScope ["log", "addresses", "payloads", "address"] ["log", "addresses"] (defScope s_append_move) := ⟨rfl, rfl, rfl, by decide +kernel, rfl, by decide +kernel, by decide +kernel⟩
theorem cal_append_move (T : Txt K mg) (F : FD K mg "append_move" s_append_move) (c_enter_segment : C8.Cal P w K mg base 1 "enter_segment" (sp_enter_segment K) []) (c_write_batch : C8.Cal P w K mg base 3 "write_batch" (sp_write_batch K) []) (c_payload_at : C8.Cal P w K mg base 3 "payload_at" (sp_payload_at K) []) : C8.Cal P w K mg base 4 "append_move" (sp_append_move K) [] := by
  obtain ⟨f, fd, F, hm⟩ := F
  refine ⟨f, fd, _, _, F.ok sc_append_move (fun vs H Q E h => ?_) (fun cdv A outer s H vs Q E hr h => ?_), hm, F.kp, F.bindsN (fun _ _ _ _ _ _ us hl => match us, hl with | [_, _], _ => rfl), .nil⟩
  · obtain ⟨_, _, _, _, _, _, _, _, rfl, _⟩ := h
    rfl
  · obtain ⟨lg, dv, lay, H0, L, st, a, xs, rfl, h, O, ha, hxl, F, hwt, k0, k1⟩ := h
    obtain ⟨H1, q, w, y⟩ := h.opn
    obtain ⟨dl, hl⟩ := w.hl y
    have haH := h.frame _ _ ha
    have ob := O.bnd
    refine ⟨_, PSs.nox (pss_cons (ps_if (PW.pt (pw_or (pt_cmpR op_eq (pe_callB call_len_seq (by rfl) T.b_len PySem.boot_len (pa_cons (pe_fld (pv 0) rfl) pa_nil)) pe_int (nomark _)) (pw_or1 (pt_cmpR op_gt (pe_callB call_len_seq (by rfl) T.b_len PySem.boot_len (pa_cons (pv 1) pa_nil)) (pe_fld (pe_fld (pv 0) rfl) rfl) (nomark _))))) (pss_one (ps_ret pe_bl)) pss_nil)
      (pss_cons (ps_setLc (i := 2) (own := [("address", 3)]) (g := gName 3) (tt := tYes) rfl sc_append_move.nd rfl rfl (sw_true rfl rfl rfl (by decide +kernel)) (pi_list (pv 1)) (blkOk_by (N := ["log", "addresses", "payloads", "address"]) (sc := defScope s_append_move) (by decide +kernel)) (fun _ _ _ _ _ => pg_name (i := 3) sc_append_move.nd rfl (Or.inl rfl)) (fun _ _ _ _ _ => pts_nil) (fun _ _ _ _ _ => (C8.pe_c c_payload_at hr (by decide) (by rfl) (pa_cons (pv 0) (pa_cons (pv 3) pa_nil)))))
      (pss_cons (ps_if (pt_cmpR (op_noneInT (hu64 hr)) pe_non (pv 2) (by rfl)) (pss_one (ps_ret pe_bl)) pss_nil)
      (pss_cons (ps_expr (C8.pe_c c_enter_segment hr (by decide) (by rfl) (pa_cons (pv 0) pa_nil)))
      (pss_cons (ps_expr (C8.pe_c c_write_batch hr (by decide) (by rfl) (pa_cons (pv 0) (pa_cons (pe_gi T.i_MOVE rfl) (pa_cons (pe_callTy call_tuple_of (by rfl) T.b_tuple (by decide +kernel) (pa_cons (pv 1) pa_nil)) (pa_cons (pv 2) pa_nil))))))
      (pss_cons (ps_fld (pe_fld (pv 0) rfl) (pe_op op_add (pe_fld (pe_fld (pv 0) rfl) rfl) pe_int) rfl)
      (pss_cons (ps_fld (pe_fld (pv 0) rfl) (pe_op op_add (pe_op op_add (pe_fld (pe_fld (pv 0) rfl) rfl) pe_int) (pe_callB call_len_seq (by rfl) T.b_len PySem.boot_len (pa_cons (pv 1) pa_nil))) rfl)
      (pss_one (ps_ret pe_bl))))))))), ?_⟩
    refine ⟨_, rfl, lg, _, q.dx, _, _, rfl, w.h0, T.cG, T.nG_queue, rfl, q.qu, _, rfl, .inl (SqL.of w.hq), rfl, _, rfl, ?_⟩
    rw [nats_len]
    by_cases c2 : st.ls.queue = []
    · refine dT (show V.int ((st.ls.queue.length : Nat) : Int) = V.int 0 by rw [c2]; rfl) ?_
      exact iteT (k0 (by unfold appendMove; rw [if_pos (.inl c2)]) _ h)
    · refine dF (fun z => c2 (List.eq_nil_of_length_eq_zero (by injection z; omega))) ?_
      refine ⟨_, rfl, a, _, rfl, .inl (SqL.of haH), _, rfl, lg, _, q.dx, _, _, rfl, w.h0, T.cG, T.nG_layout, rfl, lay, _, dl, _, _, rfl, hl, T.cL, T.nL_payload, rfl, _, _, rfl, rfl, _, rfl, ?_⟩
      rw [nats_len]
      by_cases c3 : L.pay < xs.length
      · refine dT (by omega) ?_
        exact k0 (by unfold appendMove; rw [if_pos (.inr c3)]) _ h
      · refine dF (by omega) ?_
        refine ⟨_, rfl, a, rfl, ⟨_, SqL.of haH⟩, fun D hD => lc_list (K := K) (a := a) (xs := nats xs) (fun i H' => Same H H' ∧ ∃ acc, H' D = some (.lst acc) ∧ All2 (fun n v => OPR H' (payAt st.rd n) v) (xs.take i) acc)
          ⟨sN (sR H) hD, [], upd_same, by rw [List.take_zero]; exact .nil⟩ (fun i H' _ ⟨s5, _⟩ => SqL.of (s5 _ _ haH)) ?_ ?_⟩
        · rintro i x H5 hx ⟨s5, acc, ha5, r5⟩
          obtain ⟨n, en, rfl⟩ := nats_get hx
          have hil : i < xs.length := (List.getElem?_eq_some_iff.mp en).1
          have hal : acc.length < sizeLine := sz_lt (by rw [← r5.1, List.length_take]; omega)
          refine ⟨rfl, ?_⟩
          refine ⟨_, rfl, _, rfl, lg, dv, lay, H0, L, st, n, rfl, h.same s5, hwt n, fun H6 v s6 hv => ?_⟩
          have tk : TK H6 (upd H6 D (.lst (acc ++ [v]))) := TK.upd fun zs q => by rw [s6 _ _ ha5] at q; cases q
          refine ⟨acc, s6 _ _ ha5, hal, sM (sT s5 s6) hD, _, upd_same, ?_⟩
          rw [take_snoc en]
          exact All2.snoc (r5.mono fun o v z => OPR.tk ((TK.of s6).trans tk) z) (OPR.tk tk hv)
        · rintro H5 ⟨s5, acc, ha5, r5⟩
          rw [nats_len, List.take_length] at r5
          have hnt : ∀ z ∈ acc, NoneT H5 z := fun z hz => by
            obtain ⟨i, hi, e⟩ := List.getElem_of_mem hz
            have hi2 : i < xs.length := by rw [r5.1]; exact hi
            have q : OPR H5 (payAt st.rd xs[i]) z := r5.2 i _ z (List.getElem?_eq_getElem hi2) (by rw [List.getElem?_eq_getElem hi, e])
            cases ep : payAt st.rd xs[i] with
            | none => rw [ep] at q; exact .inl q
            | some p =>
              rw [ep] at q
              obtain ⟨t, tb, rfl, h1, _⟩ := (show PayR H5 p z from q)
              exact .inr ⟨t, _, rfl, h1⟩
          refine ⟨_, rfl, D, acc, rfl, rfl, SqL.of ha5, hnt, _, rfl, ?_⟩
          rcases paysAt_any r5 with ⟨e1, e2⟩ | ⟨ps, e1, e2, e3⟩
          · rw [e2]
            refine iteT ?_
            exact k0 (by unfold appendMove; rw [if_neg (fun z => z.elim c2 c3), e1]) _ (h.same s5)
          · rw [e2]
            refine iteF ?_
            have eap : appendMove L st xs = some (writeBatch L (enterSt st) 2 (.flat xs) ps) := by unfold appendMove; rw [if_neg (fun z => z.elim c2 c3), e1]
            have h5 := (h.ext s5).tups
            have ef : Same H0 (extT (ext H0 H H5) H5) := sT (ext_same h.frame) (extT_same (ext_in h.frame s5))
            have hDf : extT (ext H0 H H5) H5 D = some (.lst acc) := (extT_not ha5 fun _ q => by cases q).trans ((ext_new hD).trans ha5)
            have e3f : All2 (PayR (extT (ext H0 H H5) H5)) ps acc := e3.mono fun p v z => by
              obtain ⟨t, tb, e, h1, h2⟩ := z
              exact ⟨t, tb, e, extT_tup h1, extT_tup h2⟩
            refine ⟨_, rfl, lg, dv, lay, _, L, st, rfl, h5, c2, fun H6 h6 => ?_⟩
            obtain ⟨F2, hh2⟩ := F.enter c2
            refine ⟨_, rfl, _, rfl, a, _, rfl, .inl ⟨SqL.of (h6.frame _ _ (ef _ _ ha)), fun t1 ht1 => ?_⟩⟩
            have s7 : Same H6 (upd H6 t1 (.tup (nats xs))) := sN (sR _) ht1
            have h7 := h6.ext s7
            have ef2 : Same (extT (ext H0 H H5) H5) (ext (extT (ext H0 H H5) H5) H6 (upd H6 t1 (.tup (nats xs)))) := ext_same h6.frame
            have hpl : ps.length = xs.length := (paysAt_ok e1).1
            refine ⟨_, rfl, ?_⟩
            refine ⟨lg, dv, lay, _, L, enterSt st, 2, t1, D, .flat xs, acc, ps, rfl, h7, O, fun e => (by rw [(ext_new ht1).trans upd_same] at e; cases e), (ext_new ht1).trans upd_same, ef2 _ _ hDf, e3f.mono fun _ _ z => z.tk (TK.of ef2), ⟨fun q => (by cases q), fun q => (by cases q)⟩, ⟨hxl, fun _ _ _ e => by cases e⟩, F2.ls, F2.sn, hh2, ?_, F2.wt, fun H8 h8 => ?_⟩
            · rw [hpl]
              show 0 + xs.length < _
              have := O.b16
              unfold Lay.pay at c3
              omega
            obtain ⟨H9, q9, w9, y9⟩ := h8.opn
            refine ⟨_, rfl, lg, _, q9.dx, _, _, rfl, w9.h0, T.cG, T.nG_counts, rfl, q9.cn, _, q9.dc, _, _, rfl, w9.hc, T.cC, T.nC_moves, rfl, _, _, rfl, rfl, ?_⟩
            refine ⟨_, rfl, lg, _, q9.dx, _, _, rfl, w9.h0, T.cG, T.nG_counts, rfl, q9.cn, _, q9.dc, _, rfl, w9.hc, T.cC, T.nC_moves, of_decide_eq_true rfl, ?_⟩
            have w10 := w9.cnt q9.c1 q9.c2 (q9.c3 + 1) q9.c4 q9.c5 q9.c6 q9.c7
            have haE : ∀ {G : Hp}, Same H0 G → G a = some (.lst (nats xs)) := fun {G} s => s _ _ ha
            have fr10 := sT (sT ef ef2) (w10.cls y9).frame
            refine ⟨_, rfl, lg, _, q9.dx, _, _, rfl, w10.h0, T.cG, T.nG_counts, rfl, q9.cn, _, q9.dc, _, _, rfl, w10.hc, T.cC, T.nC_move_blocks, rfl, _, _, rfl, rfl, _, rfl, a, _, rfl, .inl (SqL.of (haE fr10)), _, _, rfl, rfl, ?_⟩
            refine ⟨_, rfl, lg, _, q9.dx, _, _, rfl, w10.h0, T.cG, T.nG_counts, rfl, q9.cn, _, q9.dc, _, rfl, w10.hc, T.cC, T.nC_move_blocks, of_decide_eq_true rfl, ?_⟩
            have w11 := w10.cnt q9.c1 q9.c2 (q9.c3 + 1) (q9.c4 + 1 + ((nats xs).length : Int)) q9.c5 q9.c6 q9.c7
            exact k1 _ eap _ (LogO.shrink (w11.cls y9) (sT ef ef2) y)
end

end K30

namespace K30
open PySem PySem.Spec PyProof.Rows L2
/-! ## W13: checkpoints -/
open K30X
theorem nats_rep (n : Nat) : (List.replicate n [V.int 0]).flatten = nats (List.replicate n 0) := by
  unfold nats
  rw [List.map_replicate]
  induction n with
  | zero => rfl
  | succ n ih => rw [List.replicate_succ, List.flatten_cons, ih, List.replicate_succ]; rfl
theorem slotNumsS {L : Lay} {ls : LS} (h : L.lastId ≤ 1000) (sm : ls.Sm) {o : Option (List Nat)} (ho : o ∈ ls.slots) : (slotNums L.lastId o).length ≤ 1001 := by
  cases o with
  | none => show (List.replicate _ _).length ≤ _; rw [List.length_replicate]; omega
  | some t =>
    have := sm.tl t (tabs_s ho)
    show (t.drop 1).length + 1 ≤ _
    rw [List.length_drop]; omega
theorem flat_len {α β : Type} {f : α → List β} {xs : List α} {n : Nat} (h : ∀ x ∈ xs, (f x).length ≤ n) : ∀ i, ((xs.take i).flatMap f).length ≤ i * n := fun i => by
  have : ∀ ys : List α, (∀ y ∈ ys, (f y).length ≤ n) → (ys.flatMap f).length ≤ ys.length * n := fun ys => by
    induction ys with
    | nil => intro _; simp
    | cons y r ih =>
      intro hy
      have h1 := hy y List.mem_cons_self
      have h2 := ih fun z hz => hy z (List.mem_cons_of_mem _ hz)
      rw [List.flatMap_cons, List.length_append, List.length_cons, Nat.add_mul]
      omega
  have h1 := this (xs.take i) fun y hy => h y (List.mem_of_mem_take hy)
  have h2 : (xs.take i).length ≤ i := by rw [List.length_take]; omega
  exact Nat.le_trans h1 (Nat.mul_le_mul_right _ h2)
section
variable {P : Program} {w : World} {K : PySem.W.Frag} {mg : Str → Option Value} {base : Heap}
def sp_checkpoint_numbers (K : PySem.W.Frag) : Sp := fun vs H Q _ => ∃ (lg dv lay : Addr) (H0 : Hp) (L : Lay) (st : St), vs = [.ref lg] ∧ LogO K H0 H lg dv lay L st ∧ L.Ok ∧ st.ls.Sm ∧ st.ls.queue.length ≤ 1000 ∧
  ∀ H' p, Same H H' → H p = Option.none → H' p = some (.lst (nats (ckNums L st.ls))) → Q (.ref p) H'
theorem sc_checkpoint_numbers : FnScope ["log", "layout", "numbers", "slot"] ["log"] (defScope s_checkpoint_numbers) := ⟨rfl, rfl, rfl, by decide +kernel, rfl, by decide +kernel, by decide +kernel⟩
theorem cal_checkpoint_numbers (T : Txt K mg) (F : FD K mg "checkpoint_numbers" s_checkpoint_numbers) : C8.Cal P w K mg base 1 "checkpoint_numbers" (sp_checkpoint_numbers K) [] := by
  obtain ⟨f, fd, F, hm⟩ := F
  refine ⟨f, fd, _, _, F.ok sc_checkpoint_numbers (fun vs H Q E h => ?_) (fun cdv A outer s H vs Q E hr h => ?_), hm, F.kp, F.bindsN (fun _ _ _ _ _ _ us hl => match us, hl with | [_], _ => rfl), .nil⟩
  · obtain ⟨_, _, _, _, _, _, rfl, _⟩ := h
    rfl
  · obtain ⟨lg, dv, lay, H0, L, st, rfl, h, O, sm, hq1, k⟩ := h
    obtain ⟨H1, q, w, y⟩ := h.opn
    obtain ⟨dl, hl⟩ := w.hl y
    have ob := O.bnd
    refine ⟨_, PSs.nox (pss_cons (ps_set (i := 1) sc_checkpoint_numbers.nd rfl (Or.inl rfl) (pe_fld (pv 0) rfl))
      (pss_cons (ps_set (i := 2) sc_checkpoint_numbers.nd rfl (Or.inl rfl) (pe_slice sl_list (pe_fld (pv 0) rfl) (po_some pe_int) po_none))
      (pss_cons (ps_for PassesOwn.never rfl (pi_list (pe_fld (pv 0) rfl)) (pg_name (i := 3) sc_checkpoint_numbers.nd rfl (Or.inl rfl)) (pss_one (ps_if (pt_cmpR op_isN (pv 3) pe_non (nomark _)) (pss_one (ps_set (i := 2) sc_checkpoint_numbers.nd rfl (Or.inl rfl) (pe_op op_cat (pv 2) (pe_op op_rep (pe_lst (pa_cons pe_int pa_nil)) (pe_op op_add (pe_fld (pv 1) rfl) pe_int))))) (pss_one (ps_set (i := 2) sc_checkpoint_numbers.nd rfl (Or.inl rfl) (pe_op op_cat (pe_op op_cat (pv 2) (pe_lst (pa_cons pe_int pa_nil))) (pe_slice sl_list (pv 3) (po_some pe_int) po_none)))))))
      (pss_cons (ps_set (i := 2) sc_checkpoint_numbers.nd rfl (Or.inl rfl) (pe_op op_cat (pe_op op_cat (pv 2) (pe_lst (pa_cons (pe_fld (pv 0) rfl) (pa_cons (pe_fld (pv 0) rfl) (pa_cons (pe_callB call_len_seq (by rfl) T.b_len PySem.boot_len (pa_cons (pe_fld (pv 0) rfl) pa_nil)) pa_nil))))) (pe_fld (pv 0) rfl)))
      (pss_one (ps_ret (pe_op op_cat (pv 2) (pe_op op_rep (pe_lst (pa_cons pe_int pa_nil)) (pe_op op_sub (pe_op op_mul (pe_fld (pv 1) rfl) (pe_fld (pv 1) rfl)) (pe_callB call_len_seq (by rfl) T.b_len PySem.boot_len (pa_cons (pv 2) pa_nil))))))))))), ?_⟩
    refine ⟨_, rfl, lg, _, q.dx, _, _, rfl, w.h0, T.cG, T.nG_layout, rfl, ?_⟩
    refine ⟨_, rfl, lg, _, q.dx, _, _, rfl, w.h0, T.cG, T.nG_present, rfl, _, rfl, q.pr, _, rfl, SqL.of w.hp, fun p0 hp0 => ?_⟩
    have ec : ∀ xs : List Nat, cutV (nats xs) (some 1) none = nats (xs.drop 1) := fun xs => by
      rw [show (1 : Int) = ((1 : Nat) : Int) from rfl, cutV_from, nats_drop]
    rw [ec]
    have s0 := sN (o := .lst (nats (st.ls.present.drop 1))) (sR H) hp0
    have hpl : st.ls.present.length ≤ 1000 := sm.tl _ tabs_p
    have hll : L.lastId ≤ 1000 := by omega
    have fl : ∀ i, ((st.ls.slots.take i).flatMap (slotNums L.lastId)).length ≤ i * 1001 := fun i => flat_len (fun o ho => slotNumsS hll sm ho) i
    have e0 : (List.replicate ((L.lastId : Int) + 1).toNat [V.int 0]).flatten = nats (List.replicate (L.lastId + 1) 0) := by
      rw [show ((L.lastId : Int) + 1).toNat = L.lastId + 1 by omega, nats_rep]
    refine ⟨_, rfl, lg, _, q.dx, _, _, rfl, s0 _ _ w.h0, T.cG, T.nG_slots, rfl, q.sl, rfl, ⟨_, SqL.of (s0 _ _ w.hs)⟩, for_it walk_list (fun i σ H' => ∃ (v3 : Option V) (p : Addr), σ = [some (.ref lg), some (.ref lay), some (.ref p), v3] ∧ Same H H' ∧ H p = none ∧ H' p = some (.lst (nats (st.ls.present.drop 1 ++ (st.ls.slots.take i).flatMap (slotNums L.lastId)))))
      ⟨none, p0, rfl, s0, hp0, by rw [upd_same]; simp⟩ (fun i σ H' _ ⟨_, _, _, s1, _⟩ => SqL.of (s1 _ _ w.hs)) ?_ ?_⟩
    · rintro i x σ H2 H3 hlt ⟨v3, p, rfl, s2, hp, h2⟩ ⟨rfl, hx⟩
      have hi : i < st.ls.slots.length := by rw [w.hr.1]; exact hlt
      have ei : st.ls.slots[i]? = some st.ls.slots[i] := List.getElem?_eq_getElem hi
      have ri := w.hr.2 i _ x ei hx
      have hi3 : i < 3 := by have := sm.s3; omega
      have fli := fl i
      cases e : st.ls.slots[i] with
      | none =>
        rw [e] at ri ei
        cases ri
        refine ⟨_, rfl, rfl, _, rfl, iteT ?_⟩
        refine ⟨_, rfl, by show 1 ≤ sizeLine; decide, fun p1 hp1 => ?_⟩
        have s3 := sN (o := .lst [.int 0]) s2 hp1
        refine ⟨_, rfl, lay, _, dl, _, _, rfl, s3 _ _ hl, T.cL, T.nL_last_id, rfl, _, _, rfl, rfl, ?_⟩
        refine ⟨p1, _, _, rfl, rfl, upd_same, by omega, by omega, sz_ok (by simp; omega), fun p2 hp2 => ?_⟩
        rw [e0]
        have s4 := sN (o := .lst (nats (List.replicate (L.lastId + 1) 0))) s3 hp2
        refine ⟨p, p2, _, _, rfl, rfl, uN (uN h2 hp1) hp2, upd_same, ?_, fun p3 hp3 => ?_⟩
        · rw [nats_len, nats_len, List.length_append, List.length_replicate, List.length_drop]
          exact sz_ok (by omega)
        · refine ⟨_, p3, rfl, sN s4 hp3, sF s4 hp3, ?_⟩
          rw [upd_same, ← nats_app, take_snoc ei, List.flatMap_append, List.append_assoc]
          simp [slotNums]
      | some t =>
        rw [e] at ri ei
        obtain ⟨a, rfl, hq⟩ := ri
        have htl : t.length ≤ 1000 := sm.tl t (tabs_s (List.mem_of_getElem? ei))
        refine ⟨_, rfl, rfl, _, rfl, iteF ?_⟩
        refine ⟨_, rfl, by show 1 ≤ sizeLine; decide, fun p1 hp1 => ?_⟩
        have s3 := sN (o := .lst [.int 1]) s2 hp1
        refine ⟨p, p1, _, _, rfl, rfl, uN h2 hp1, upd_same, ?_, fun p2 hp2 => ?_⟩
        · rw [nats_len, List.length_append, List.length_drop]
          rw [show ([V.int 1] : List V).length = 1 from rfl]; exact sz_ok (by omega)
        have s4 := sN (o := .lst (nats (st.ls.present.drop 1 ++ (st.ls.slots.take i).flatMap (slotNums L.lastId)) ++ [.int 1])) s3 hp2
        refine ⟨_, rfl, _, rfl, a, _, rfl, SqL.of (s4 _ _ hq), fun p3 hp3 => ?_⟩
        rw [ec]
        have s5 := sN (o := .lst (nats (t.drop 1))) s4 hp3
        refine ⟨p2, p3, _, _, rfl, rfl, uN upd_same hp3, upd_same, ?_, fun p4 hp4 => ?_⟩
        · rw [List.length_append, nats_len, nats_len, List.length_append, List.length_drop, List.length_drop]
          rw [show ([V.int 1] : List V).length = 1 from rfl]; exact sz_ok (by omega)
        · refine ⟨_, p4, rfl, sN s5 hp4, sF s5 hp4, ?_⟩
          rw [upd_same, take_snoc ei, List.flatMap_append]
          rw [show ([V.int 1] : List V) = nats [1] from rfl, ← nats_app, ← nats_app]
          simp [slotNums]
    · rintro σ H2 ⟨v3, p, rfl, s2, hp, h2⟩
      have h3s : q.vsl.length = 3 := by rw [← w.hr.1, sm.s3]
      rw [h3s, List.take_of_length_le (by rw [sm.s3]; exact Nat.le_refl _)] at h2
      have flf : (st.ls.slots.flatMap (slotNums L.lastId)).length ≤ 3003 := by
        have := fl 3
        rw [List.take_of_length_le (by rw [sm.s3]; exact Nat.le_refl _)] at this
        exact this
      have w2 := w.new s2
      refine ⟨_, rfl, _, rfl, lg, _, q.dx, _, _, rfl, w2.h0, T.cG, T.nG_head, rfl, _, rfl, lg, _, q.dx, _, _, rfl, w2.h0, T.cG, T.nG_place, rfl, _, rfl, lg, _, q.dx, _, _, rfl, w2.h0, T.cG, T.nG_queue, rfl, q.qu, _, rfl, .inl (SqL.of w2.hq), by show 3 ≤ sizeLine; decide, fun p1 hp1 => ?_⟩
      have s3 := sN (o := .lst [.int (st.ls.head : Int), .int (st.ls.place : Int), .int ((nats st.ls.queue).length : Int)]) s2 hp1
      refine ⟨p, p1, _, _, rfl, rfl, uN h2 hp1, upd_same, ?_, fun p2 hp2 => ?_⟩
      · rw [nats_len, List.length_append, List.length_drop]
        rw [show ∀ a b c : V, [a, b, c].length = 3 from fun _ _ _ => rfl]; exact sz_ok (by omega)
      have s4 := sN (o := .lst (nats (st.ls.present.drop 1 ++ st.ls.slots.flatMap (slotNums L.lastId)) ++ [.int (st.ls.head : Int), .int (st.ls.place : Int), .int ((nats st.ls.queue).length : Int)])) s3 hp2
      have w4 := w.new s4
      refine ⟨_, rfl, lg, _, q.dx, _, _, rfl, w4.h0, T.cG, T.nG_queue, rfl, p2, q.qu, _, _, rfl, rfl, upd_same, w4.hq, ?_, fun p3 hp3 => ?_⟩
      · rw [List.length_append, nats_len, nats_len, List.length_append, List.length_drop]
        rw [show ∀ a b c : V, [a, b, c].length = 3 from fun _ _ _ => rfl]; exact sz_ok (by omega)
      have eh : nats (st.ls.present.drop 1 ++ st.ls.slots.flatMap (slotNums L.lastId)) ++ [.int (st.ls.head : Int), .int (st.ls.place : Int), .int ((nats st.ls.queue).length : Int)] ++ nats st.ls.queue = nats (ckHead L st.ls) := by
        unfold ckHead
        rw [nats_app _ st.ls.queue, nats_app _ [st.ls.head, st.ls.place, st.ls.queue.length], nats_len]
        rfl
      rw [eh]
      have s5 := sN (o := .lst (nats (ckHead L st.ls))) s4 hp3
      have hch : (ckHead L st.ls).length ≤ 6000 := by
        unfold ckHead
        rw [List.length_append, List.length_append, List.length_append, List.length_drop]
        rw [show ∀ a b c : Nat, [a, b, c].length = 3 from fun _ _ _ => rfl]
        omega
      refine ⟨_, rfl, by show 1 ≤ sizeLine; decide, fun p4 hp4 => ?_⟩
      have s6 := sN (o := .lst [.int 0]) s5 hp4
      refine ⟨_, rfl, lay, _, dl, _, _, rfl, s6 _ _ hl, T.cL, T.nL_region_blocks, rfl, _, rfl, lay, _, dl, _, _, rfl, s6 _ _ hl, T.cL, T.nL_fan, rfl, ?_⟩
      refine ⟨_, _, rfl, rfl, .inl ⟨by omega, by omega⟩, _, rfl, p3, _, rfl, .inl (SqL.of (uN upd_same hp4)), _, _, rfl, rfl, ?_⟩
      rw [nats_len]
      have hrf : L.rb * L.fan ≤ 60 * 128 := Nat.mul_le_mul ob.2.2.2.2.1 ob.2.2.2.1
      have ek : ((L.rb : Int) * (L.fan : Int) - ((ckHead L st.ls).length : Int)) = ((L.rb * L.fan : Nat) : Int) - ((ckHead L st.ls).length : Int) := by rw [Int.natCast_mul]
      have et : ((L.rb : Int) * (L.fan : Int) - ((ckHead L st.ls).length : Int)).toNat = L.rb * L.fan - (ckHead L st.ls).length := by rw [ek]; omega
      refine ⟨p4, _, _, rfl, rfl, upd_same, by rw [ek]; omega, by rw [ek]; omega, sz_ok (by rw [et]; simp; omega), fun p5 hp5 => ?_⟩
      have e5 : (List.replicate ((L.rb : Int) * (L.fan : Int) - ((ckHead L st.ls).length : Int)).toNat [V.int 0]).flatten = nats (List.replicate (L.rb * L.fan - (ckHead L st.ls).length) 0) := by rw [et, nats_rep]
      rw [e5]
      have s7 := sN (o := .lst (nats (List.replicate (L.rb * L.fan - (ckHead L st.ls).length) 0))) s6 hp5
      refine ⟨p3, p5, _, _, rfl, rfl, uN (uN upd_same hp4) hp5, upd_same, ?_, fun p6 hp6 => ?_⟩
      · rw [nats_len, nats_len, List.length_replicate]; exact sz_ok (by omega)
      · refine k _ p6 (sN s7 hp6) (sF s7 hp6) ?_
        rw [upd_same, ← nats_app]; rfl
theorem DS.val {kvs : List (Key × V)} {ks : List Nat} (h : DS kvs ks) (n : Nat) : (valV kvs (Sum.inl (n : Int))).isSome = decide (n ∈ ks) := by
  rw [← valV_any]; exact h.has
theorem LOK.sm {L : Lay} {rd : Rd} {ls : LS} (O : L.Ok) (h : LOK L rd ls) : ls.Sm := ⟨h.slen, fun t ht => by have := h.tl t ht; have := O.bnd; omega⟩
theorem range_filter (p : Nat → Bool) (i : Nat) : (List.range (i + 1)).filter p = if p i = true then (List.range i).filter p ++ [i] else (List.range i).filter p := by
  rw [List.range_succ, List.filter_append]
  by_cases c : p i = true
  · rw [if_pos c]; simp [c]
  · rw [if_neg c]; simp [c]
def sp_extended_queue (K : PySem.W.Frag) : Sp := fun vs H Q _ => ∃ (lg dv lay : Addr) (H0 : Hp) (L : Lay) (st : St) (rd : Rd), vs = [.ref lg] ∧ LogO K H0 H lg dv lay L st ∧ L.Ok ∧ LOK L rd st.ls ∧
  ∀ H' p fr, Same H H' → H p = Option.none → H' p = some (.lst (nats (st.ls.queue ++ fr))) → NewFree L st.ls fr → Q (.ref p) H'
theorem sc_extended_queue : FnScope ["log", "busy", "segment", "address"] ["log"] (defScope s_extended_queue) := ⟨rfl, rfl, rfl, by decide +kernel, rfl, by decide +kernel, by decide +kernel⟩
theorem cal_extended_queue (T : Txt K mg) (F : FD K mg "extended_queue" s_extended_queue) (c_live_addresses : C8.Cal P w K mg base 1 "live_addresses" (sp_live_addresses K) []) (c_segment_of : C8.Cal P w K mg base 1 "segment_of" (sp_segment_of K) []) : C8.Cal P w K mg base 2 "extended_queue" (sp_extended_queue K) [] := by
  obtain ⟨f, fd, F, hm⟩ := F
  refine ⟨f, fd, _, _, F.ok sc_extended_queue (fun vs H Q E h => ?_) (fun cdv A outer s H vs Q E hr h => ?_), hm, F.kp, F.bindsN (fun _ _ _ _ _ _ us hl => match us, hl with | [_], _ => rfl), .nil⟩
  · obtain ⟨_, _, _, _, _, _, _, rfl, _⟩ := h
    rfl
  · obtain ⟨lg, dv, lay, H0, L, st, rd, rfl, h, O, ok, k⟩ := h
    obtain ⟨H1, q, w, y⟩ := h.opn
    obtain ⟨dl, hl⟩ := w.hl y
    have ob := O.bnd
    refine ⟨_, PSs.nox (pss_cons (ps_set (i := 1) sc_extended_queue.nd rfl (Or.inr rfl) (pe_disp (pps_cons (pe_fld (pv 0) rfl) pe_bl pps_nil) (by rfl) (by rfl) (fun z => by cases z) (by decide)))
      (pss_cons (ps_for PassesOwn.never rfl (pi_list (pe_fld (pv 0) rfl)) (pg_name (i := 2) sc_extended_queue.nd rfl (Or.inl rfl)) (pss_one (ps_dput (hu_of hr) (pv 1) (pv 2) pe_bl rfl)))
      (pss_cons (ps_for PassesOwn.never rfl (pi_list (C8.pe_c c_live_addresses hr (by decide) (by rfl) (pa_cons (pv 0) pa_nil))) (pg_name (i := 3) sc_extended_queue.nd rfl (Or.inl rfl)) (pss_one (ps_dput (hu_of hr) (pv 1) (C8.pe_c c_segment_of hr (by decide) (by rfl) (pa_cons (pe_fld (pv 0) rfl) (pa_cons (pv 3) pa_nil))) pe_bl rfl)))
      (pss_one (ps_ret (pe_op op_cat (pe_fld (pv 0) rfl) (pe_lc (own := [("segment", 2)]) (g := gName 2) (by rfl) sc_extended_queue.nd (pi_range1 rfl T.b_range (pa_cons (pe_fld (pe_fld (pv 0) rfl) rfl) pa_nil)) (blkOk_by (N := ["log", "busy", "segment", "address"]) (sc := defScope s_extended_queue) (by decide +kernel)) (fun _ _ _ _ _ => pg_name (i := 2) sc_extended_queue.nd rfl (Or.inl rfl)) (fun _ _ _ _ _ => (pts_one (pt_cmp (pc_dnotin (hu_of hr) (pv 2) (pv 1))))) (fun _ _ _ _ _ => (pv 2))))))))), ?_⟩
    have sm := ok.sm O
    have hql := ok.qlen
    have hS := O.s16
    intro d hd
    have s1 := sN (o := .dK []) (sR H) hd
    refine ⟨_, rfl, lg, _, q.dx, _, _, rfl, s1 _ _ w.h0, T.cG, T.nG_head, rfl, upd_same, [(Sum.inl (st.ls.head : Int), .bl true)], rfl, by show 1 ≤ 15; decide, ?_⟩
    let G1 := upd (upd H d (.dK [])) d (.dK (mergeK [] [((Sum.inl (st.ls.head : Int) : Key), V.bl true)]))
    have t1 : Same H G1 := sM s1 hd
    have hmg : mergeK [] [((Sum.inl (st.ls.head : Int) : Key), V.bl true)] = [((Sum.inl (st.ls.head : Int) : Key), V.bl true)] := rfl
    refine ⟨_, rfl, lg, _, q.dx, _, _, rfl, t1 _ _ w.h0, T.cG, T.nG_queue, rfl, q.qu, rfl, ⟨_, SqL.of (t1 _ _ w.hq)⟩, for_it walk_list (fun i σ H' => ∃ (v2 v3 : Option V) (kvs : List (Key × V)) (ks : List Nat), σ = [some (.ref lg), some (.ref d), v2, v3] ∧ Same H H' ∧ H' d = some (.dK kvs) ∧ DS kvs ks ∧ ks.length ≤ 1 + i ∧ ∀ g, g ∈ ks ↔ g = st.ls.head ∨ g ∈ st.ls.queue.take i)
      ⟨none, none, _, [st.ls.head], rfl, t1, upd_same, rfl, Nat.le_refl _, fun g => by simp⟩ (fun i σ H' _ ⟨_, _, _, _, _, s2, _⟩ => SqL.of (s2 _ _ w.hq)) ?_ ?_⟩
    · rintro i x σ H2 H3 hlt ⟨v2, v3, kvs, ks, rfl, s2, h2, ds, ln, mm⟩ ⟨rfl, hx⟩
      obtain ⟨n, en, rfl⟩ := nats_get hx
      have hil : i < st.ls.queue.length := (List.getElem?_eq_some_iff.mp en).1
      refine ⟨_, rfl, _, rfl, d, _, rfl, DPut.k (k := Sum.inl (n : Int)) h2 (sz_lt (by have := ds.len; omega)), ?_⟩
      refine ⟨_, _, _, insN ks n, rfl, sM s2 hd, upd_same, ds.put n _, by have := insN_len (ks := ks) (n := n); omega, fun g => ?_⟩
      rw [insN_mem, mm g, take_snoc en, List.mem_append, List.mem_singleton, or_assoc]
    · rintro σ H2 ⟨v2, v3, kvs, ks, rfl, s2, h2, ds, ln, mm⟩
      rw [nats_len] at ln mm
      rw [List.take_length] at mm
      refine ⟨_, rfl, lg, dv, lay, H0, L, st, rfl, h.same s2, ok.slen, sm.tl, fun H3 p3 ys s3 hp3 hy3 hmem hnd hyl => ?_⟩
      have s4 := sT s2 s3
      refine ⟨p3, rfl, ⟨_, SqL.of hy3⟩, for_it walk_list (fun i σ H' => ∃ (v2 v3 : Option V) (kvs : List (Key × V)) (ks : List Nat), σ = [some (.ref lg), some (.ref d), v2, v3] ∧ Same H H' ∧ H' p3 = some (.lst (nats ys)) ∧ H' d = some (.dK kvs) ∧ DS kvs ks ∧ ks.length ≤ 100 + i ∧ ∀ g, g ∈ ks ↔ (g = st.ls.head ∨ g ∈ st.ls.queue) ∨ ∃ a ∈ ys.take i, segOf L a = some g)
        ⟨_, _, kvs, ks, rfl, s4, hy3, s3 _ _ h2, ds, by have := O.s16; omega, fun g => by rw [mm g]; simp⟩ (fun i σ H' _ ⟨_, _, _, _, _, _, b, _⟩ => SqL.of b) ?_ ?_⟩
      · rintro i x σ H5 H6 hlt ⟨v2', v3', kvs', ks', rfl, s5, hy5, h5, ds5, ln5, mm5⟩ ⟨rfl, hx⟩
        obtain ⟨a, ea, rfl⟩ := nats_get hx
        have hil : i < ys.length := (List.getElem?_eq_some_iff.mp ea).1
        obtain ⟨g, p, eg, hg, hp0, hpb, _, _⟩ := ok.lv a ((hmem a).mp (List.mem_of_getElem? ea))
        have esg : segOf L a = some g := by rw [eg]; exact segOf_ad hg hpb
        refine ⟨_, rfl, _, rfl, lg, _, q.dx, _, _, rfl, s5 _ _ w.h0, T.cG, T.nG_layout, rfl, _, rfl, lay, a, L, rfl, ⟨dl, s5 _ _ hl⟩, O, ?_⟩
        rw [esg]
        refine ⟨d, _, rfl, DPut.k (k := Sum.inl (g : Int)) h5 (sz_lt (by have := ds5.len; omega)), ?_⟩
        have np : p3 ≠ d := fun e => by rw [e, h5] at hy5; cases hy5
        refine ⟨_, _, _, insN ks' g, rfl, sM s5 hd, by rw [upd_ne np]; exact hy5, upd_same, ds5.put g _, by have := insN_len (ks := ks') (n := g); omega, fun g' => ?_⟩
        rw [insN_mem, mm5 g', take_snoc ea]
        constructor
        · rintro ((z | ⟨b, z1, z2⟩) | rfl)
          · exact .inl z
          · exact .inr ⟨b, List.mem_append_left _ z1, z2⟩
          · exact .inr ⟨a, List.mem_append_right _ List.mem_cons_self, esg⟩
        · rintro (z | ⟨b, z1, z2⟩)
          · exact .inl (.inl z)
          · rcases List.mem_append.mp z1 with z1 | z1
            · exact .inl (.inr ⟨b, z1, z2⟩)
            · rw [List.mem_singleton.mp z1, esg] at z2
              exact .inr (Option.some.inj z2).symm
      · rintro σ H5 ⟨v2', v3', kvs', ks', rfl, s5, hy5, h5, ds5, ln5, mm5⟩
        rw [nats_len, List.take_length] at mm5
        have hS := O.s16
        refine ⟨_, rfl, lg, _, q.dx, _, _, rfl, s5 _ _ w.h0, T.cG, T.nG_queue, rfl, ?_⟩
        refine ⟨_, rfl, lg, _, q.dx, _, _, rfl, s5 _ _ w.h0, T.cG, T.nG_layout, rfl, lay, _, dl, _, _, rfl, s5 _ _ hl, T.cL, T.nL_segments, rfl, _, rfl, by omega, by omega, fun D hD => lc_range (fun i H' => Same H5 H' ∧ H' D = some (.lst (nats ((List.range i).filter fun g => !decide (g ∈ ks')))))
          ⟨sN (sR H5) hD, by rw [upd_same]; rfl⟩ ?_ ?_⟩
        · rintro i H6 hi ⟨s6, h6⟩
          refine ⟨rfl, ?_⟩
          have ei : (0 : Int) + (i : Int) = (i : Int) := by omega
          rw [ei]
          refine ⟨_, rfl, _, rfl, d, _, rfl, DGet.k (k := Sum.inl (i : Int)) (s6 _ _ h5), _, rfl, ?_⟩
          rw [ds5.val]
          have hfl : (nats ((List.range i).filter fun g => !decide (g ∈ ks'))).length < sizeLine := sz_lt (by
            rw [nats_len]
            have := List.length_filter_le (fun g => !decide (g ∈ ks')) (List.range i)
            rw [List.length_range] at this
            have : (i : Int) < L.segs := by omega
            omega)
          by_cases c : i ∈ ks'
          · refine bF (by rw [decide_eq_true c]; rfl) ?_
            refine ⟨s6, ?_⟩
            rw [range_filter, if_neg (by simp [c])]
            exact h6
          · refine bT (by rw [decide_eq_false c]; rfl) ?_
            refine ⟨_, rfl, _, h6, hfl, sM s6 hD, ?_⟩
            rw [upd_same, range_filter, if_pos (by simp [c]), nats_app]; rfl
        · rintro H6 ⟨s6, h6⟩
          have hfl : ((List.range ((L.segs : Int)).toNat).filter fun g => !decide (g ∈ ks')).length ≤ 16 := by
            have := List.length_filter_le (fun g => !decide (g ∈ ks')) (List.range ((L.segs : Int)).toNat)
            rw [List.length_range] at this
            omega
          have s7 := sT s5 s6
          refine ⟨q.qu, D, _, _, rfl, rfl, s7 _ _ w.hq, h6, sz_ok (by rw [nats_len, nats_len]; omega), fun p hp => ?_⟩
          refine k _ p _ (sN s7 hp) (sF s7 hp) (by rw [upd_same, ← nats_app]) ⟨List.nodup_range.filter _, fun g hg => ?_⟩
          obtain ⟨h1, h2⟩ := List.mem_filter.mp hg
          have h1' : g < L.segs := by have := List.mem_range.mp h1; omega
          have h2' : g ∉ ks' := by simpa using h2
          rw [mm5 g] at h2'
          refine ⟨h1', fun e => h2' (.inl (.inl e)), fun e => h2' (.inl (.inr e)), fun a la e => h2' (.inr ⟨a, (hmem a).mpr la, e⟩)⟩
end

end K30

namespace K30
open PySem PySem.Spec PyProof.Rows L2
/-! ## W14: writing a checkpoint -/
open K30X
theorem barrier_wait {d : Dev} (h : d.barrier.dark = false) : d.barrier.waiting = [] ∧ d.dark = false := by
  unfold Dev.barrier Dev.settle at h ⊢
  by_cases c : d.tick.dark = true
  · rw [if_pos c] at h; rw [c] at h; cases h
  · rw [if_neg c]
    refine ⟨rfl, ?_⟩
    cases q : d.dark with
    | false => rfl
    | true => exact absurd (tick_dark d q) c
theorem barrier_lens (d : Dev) : d.barrier.seen.length = d.seen.length ∧ d.barrier.sure.length = d.sure.length ∧ ∀ x ∈ d.barrier.waiting, x ∈ d.waiting := by
  unfold Dev.barrier Dev.settle
  by_cases c : d.tick.dark = true
  · rw [if_pos c]
    exact ⟨by rw [tick_seen], by rw [tick_sure], fun x hx => by rw [tick_wait] at hx; exact hx⟩
  · rw [if_neg c]
    refine ⟨?_, ?_, fun x hx => ?_⟩
    · show d.tick.seen.length = _; rw [tick_seen]
    · show (flush d.tick.sure _).length = _; rw [flush_len, tick_sure]
    · cases hx
structure St.Chk (L : Lay) (st : St) : Prop where
  sn : st.dev.seen.length = L.db
  su : st.dev.sure.length = L.db
  lw : ∀ x ∈ st.dev.waiting, x.1 < L.db
  ok : ∃ rd, LOK L rd st.ls
  rg : st.reg < 2
section
variable {P : Program} {w : World} {K : PySem.W.Frag} {mg : Str → Option Value} {base : Heap}
def sp_write_checkpoint (K : PySem.W.Frag) : Sp := fun vs H Q _ => ∃ (lg dv lay : Addr) (H0 : Hp) (L : Lay) (st : St), vs = [.ref lg] ∧ LogO K H0 H lg dv lay L st ∧ L.Ok ∧ st.Chk L ∧
  ∀ H' fr, NewFree L st.ls fr → LogO K H0 H' lg dv lay L (checkpoint L fr st) → Q .non H'
theorem sc_write_checkpoint : FnScope ["log", "layout", "sequence", "numbers", "start", "rank", "part"] ["log"] (defScope s_write_checkpoint) := ⟨rfl, rfl, rfl, by decide +kernel, rfl, by decide +kernel, by decide +kernel⟩
theorem cal_write_checkpoint (T : Txt K mg) (F : FD K mg "write_checkpoint" s_write_checkpoint) (c_Device_barrier : C8.Met P w K mg base 2 (CD K) "barrier" (sp_Device_barrier K) []) (c_extended_queue : C8.Cal P w K mg base 2 "extended_queue" (sp_extended_queue K) []) (c_next_sequence : C8.Cal P w K mg base 1 "next_sequence" (sp_next_sequence K) []) (c_checkpoint_numbers : C8.Cal P w K mg base 1 "checkpoint_numbers" (sp_checkpoint_numbers K) []) (c_region_start : C8.Cal P w K mg base 1 "region_start" (sp_region_start K) []) (c_Device_write : C8.Met P w K mg base 2 (CD K) "write" (sp_Device_write K) []) : C8.Cal P w K mg base 3 "write_checkpoint" (sp_write_checkpoint K) [] := by
  obtain ⟨f, fd, F, hm⟩ := F
  refine ⟨f, fd, _, _, F.ok sc_write_checkpoint (fun vs H Q E h => ?_) (fun cdv A outer s H vs Q E hr h => ?_), hm, F.kp, F.bindsN (fun _ _ _ _ _ _ us hl => match us, hl with | [_], _ => rfl), .nil⟩
  · obtain ⟨_, _, _, _, _, _, rfl, _⟩ := h
    rfl
  · obtain ⟨lg, dv, lay, H0, L, st, rfl, h, O, C, k⟩ := h
    obtain ⟨rd, ok⟩ := C.ok
    obtain ⟨H1, q, w, y⟩ := h.opn
    obtain ⟨p, hp⟩ := w.hd
    have ob := O.bnd
    refine ⟨_, PSs.nox (pss_cons (ps_set (i := 1) sc_write_checkpoint.nd rfl (Or.inl rfl) (pe_fld (pv 0) rfl))
      (pss_cons (ps_expr (C8.pe_mt0 c_Device_barrier hr (by decide) (pe_fld (pv 0) rfl)))
      (pss_cons (ps_fld (pv 0) (C8.pe_c c_extended_queue hr (by decide) (by rfl) (pa_cons (pv 0) pa_nil)) rfl)
      (pss_cons (ps_fld (pv 0) (pe_op op_sub pe_int (pe_fld (pv 0) rfl)) rfl)
      (pss_cons (ps_set (i := 2) sc_write_checkpoint.nd rfl (Or.inl rfl) (C8.pe_c c_next_sequence hr (by decide) (by rfl) (pa_cons (pv 0) pa_nil)))
      (pss_cons (ps_set (i := 3) sc_write_checkpoint.nd rfl (Or.inl rfl) (C8.pe_c c_checkpoint_numbers hr (by decide) (by rfl) (pa_cons (pv 0) pa_nil)))
      (pss_cons (ps_set (i := 4) sc_write_checkpoint.nd rfl (Or.inl rfl) (C8.pe_c c_region_start hr (by decide) (by rfl) (pa_cons (pv 1) (pa_cons (pe_fld (pv 0) rfl) pa_nil))))
      (pss_cons (ps_for PassesOwn.never rfl (pi_range1 rfl T.b_range (pa_cons (pe_fld (pv 1) rfl) pa_nil)) (pg_name (i := 5) sc_write_checkpoint.nd rfl (Or.inl rfl)) (pss_cons (ps_set (i := 6) sc_write_checkpoint.nd rfl (Or.inl rfl) (pe_callTy call_tuple_of (by rfl) T.b_tuple (by decide +kernel) (pa_cons (pe_slice sl_list (pv 3) (po_some (pe_op op_mul (pv 5) (pe_fld (pv 1) rfl))) (po_some (pe_op op_mul (pe_op op_add (pv 5) pe_int) (pe_fld (pv 1) rfl)))) pa_nil)))
      (pss_one (ps_expr (C8.pe_mt c_Device_write hr (by decide) (pe_fld (pv 0) rfl) (pa_cons (pe_op op_add (pv 4) (pv 5)) (pa_cons (pe_tup (pa_cons (pe_gi T.i_PART rfl) (pa_cons (pv 2) (pa_cons (pv 5) (pa_cons (pv 6) pa_nil))))) pa_nil)))))))
      (pss_cons (ps_expr (C8.pe_mt0 c_Device_barrier hr (by decide) (pe_fld (pv 0) rfl)))
      (pss_cons (ps_fld (pe_fld (pv 0) rfl) (pe_op op_add (pe_fld (pe_fld (pv 0) rfl) rfl) pe_int) rfl)
      (pss_cons (ps_fld (pe_fld (pv 0) rfl) (pe_op op_add (pe_fld (pe_fld (pv 0) rfl) rfl) (pe_fld (pv 1) rfl)) rfl)
      (pss_one (ps_fld (pe_fld (pv 0) rfl) (pe_op op_add (pe_fld (pe_fld (pv 0) rfl) rfl) pe_int) rfl))))))))))))), ?_⟩
    refine ⟨_, rfl, lg, _, q.dx, _, _, rfl, w.h0, T.cG, T.nG_layout, rfl, ?_⟩
    refine ⟨_, rfl, lg, _, q.dx, _, _, rfl, w.h0, T.cG, T.nG_device, rfl, dv, _, _, rfl, hp, rfl, dv, lay, H1, st.dev, rfl, w.d, fun x hx => by rw [C.su]; exact C.lw x hx, fun H2 d2 => ?_⟩
    have w2 : LogW K H0 H1 H2 lg dv lay { st with dev := st.dev.barrier } q := ⟨d2, w.l⟩
    refine ⟨_, rfl, lg, dv, lay, H0, L, _, rd, rfl, w2.cls y, O, ok, fun H3 p3 fr s3 hp3 hq3 nf => ?_⟩
    have w3 := w2.new s3
    refine ⟨_, rfl, lg, _, q.dx, _, rfl, w3.h0, T.cG, T.nG_queue, of_decide_eq_true rfl, ?_⟩
    have w4 := w3.put q.pr q.sl p3 q.vsl (extQ st.ls fr) st.seq st.reg w3.l.p w3.l.sl w3.l.rs ((ext_new hp3).trans hq3)
    refine ⟨_, rfl, lg, _, q.dx, _, _, rfl, w4.h0, T.cG, T.nG_region, rfl, _, _, rfl, rfl, _, rfl, lg, _, q.dx, _, rfl, w4.h0, T.cG, T.nG_region, of_decide_eq_true rfl, ?_⟩
    have er : (fun i j => V.int (i - j)) (1 : Int) (st.reg : Int) = V.int ((1 - st.reg : Nat) : Int) := by
      show V.int (1 - (st.reg : Int)) = _
      have := C.rg
      rw [show (1 : Int) - (st.reg : Int) = ((1 - st.reg : Nat) : Int) by omega]
    rw [er]
    have w5 := w4.put q.pr q.sl p3 q.vsl (extQ st.ls fr) st.seq (1 - st.reg) w4.l.p w4.l.sl w4.l.rs w4.l.qu
    refine ⟨_, rfl, lg, dv, lay, H0, L, _, rfl, w5.cls y, fun H6 h6 => ?_⟩
    have smx : (extQ st.ls fr).Sm := ⟨(ok.sm O).s3, (ok.sm O).tl⟩
    have hfr : fr.length ≤ L.segs := nodup_bound nf.1 fun x hx => (nf.2 x hx).1
    have hqx : (extQ st.ls fr).queue.length ≤ 1000 := by
      show (st.ls.queue ++ fr).length ≤ _
      have := ok.qlen
      have := O.s16
      rw [List.length_append]; omega
    refine ⟨_, rfl, lg, dv, lay, H0, L, _, rfl, h6, O, smx, hqx, fun H7 p7 s7 hp7 hn7 => ?_⟩
    have h7 := h6.ext s7
    obtain ⟨H8, q8, w8, y8⟩ := h7.opn
    obtain ⟨dl, hl⟩ := w8.hl y8
    let nums := ckNums L (extQ st.ls fr)
    let ws := ckWs L (1 - st.reg) (st.seq + 1) nums
    refine ⟨_, rfl, _, rfl, lg, _, q8.dx, _, _, rfl, w8.h0, T.cG, T.nG_region, rfl, lay, 1 - st.reg, L, rfl, by omega, ⟨dl, hl⟩, ?_⟩
    have hrg : 1 - st.reg < 2 := by omega
    have hws : ∀ i, i < L.rb → ws[i]? = some ((1 - st.reg) * L.rb + i, ⟨5, st.seq + 1, i, .flat (part L nums i)⟩) := fun i hi => by
      show (List.map _ (List.range L.rb))[i]? = _
      rw [List.getElem?_map, List.getElem?_range hi]; rfl
    have hF : ext H0 H6 H7 p7 = some (.lst (nats nums)) := (ext_new hp7).trans hn7
    have w80 : LogW K (ext H0 H6 H7) H8 H7 lg dv lay { st with dev := st.dev.barrier.writes (ws.take 0), ls := extQ st.ls fr, seq := st.seq + 1, reg := 1 - st.reg } q8 := w8
    obtain ⟨bl1, bl2, bl3⟩ := barrier_lens st.dev
    refine ⟨_, rfl, lay, _, dl, _, _, rfl, hl, T.cL, T.nL_region_blocks, rfl, _, rfl, by omega, by omega, for_it walk_range (fun i σ H' => ∃ (v6 v7 : Option V) (F : Hp) (q' : LogP), σ = [some (.ref lg), some (.ref lay), some (.int ((st.seq + 1 : Nat) : Int)), some (.ref p7), some (.int (((1 - st.reg) * L.rb : Nat) : Int)), v6, v7] ∧ LogW K (ext H0 H6 H7) F H' lg dv lay { st with dev := st.dev.barrier.writes (ws.take i), ls := extQ st.ls fr, seq := st.seq + 1, reg := 1 - st.reg } q')
      ⟨none, none, H8, q8, rfl, w80⟩ (fun _ _ _ _ _ => trivial) ?_ ?_⟩
    · rintro i x σ H9 H10 hlt ⟨v6, v7, F, q', rfl, w9⟩ yy
      obtain ⟨rfl, rfl⟩ := yy
      have hi : i < L.rb := by omega
      have ei : (fun (j : Nat) => V.int (0 + (j : Int))) i = V.int (i : Int) := by
        show V.int (0 + (i : Int)) = _
        rw [Int.zero_add]
      rw [ei]
      have hnH := w9.fr _ _ (w9.l.s _ _ hF)
      obtain ⟨dl9, hl9⟩ := w9.hl y8
      obtain ⟨p9, hp9⟩ := w9.hd
      refine ⟨_, rfl, _, rfl, _, rfl, lay, _, dl9, _, _, rfl, hl9, T.cL, T.nL_fan, rfl, _, _, rfl, rfl, .inl ⟨by omega, by omega⟩, _, rfl, ?_⟩
      refine ⟨_, rfl, _, _, rfl, rfl, _, rfl, lay, _, dl9, _, _, rfl, hl9, T.cL, T.nL_fan, rfl, _, _, rfl, rfl, .inl ⟨by omega, by omega⟩, _, rfl, ?_⟩
      refine ⟨p7, _, rfl, SqL.of hnH, fun p10 hp10 => ?_⟩
      have ec : cutV (nats nums) (some ((i : Int) * (L.fan : Int))) (some (((i : Int) + 1) * (L.fan : Int))) = nats (part L nums i) := by
        rw [show (i : Int) * (L.fan : Int) = ((i * L.fan : Nat) : Int) by rw [Int.natCast_mul], show ((i : Int) + 1) * (L.fan : Int) = (((i + 1) * L.fan : Nat) : Int) by rw [Int.natCast_mul]; rfl, cutV_mid, nats_drop, nats_take]
        unfold part
        rw [show (i + 1) * L.fan - i * L.fan = L.fan by rw [Nat.add_mul, Nat.one_mul]; omega]
      rw [ec]
      refine ⟨p10, _, rfl, .inl ⟨SqL.of upd_same, fun t1 ht1 => ?_⟩⟩
      have s10 := sN (o := .lst (nats (part L nums i))) (sR H10) hp10
      have s11 := sN (o := .tup (nats (part L nums i))) s10 ht1
      have w11 := w9.new s11
      obtain ⟨p11, hp11⟩ := w11.hd
      refine ⟨_, rfl, lg, _, q'.dx, _, _, rfl, w11.h0, T.cG, T.nG_device, rfl, dv, _, _, rfl, hp11, rfl, ?_⟩
      refine ⟨_, rfl, _, rfl, _, _, rfl, rfl, _, rfl, _, rfl, _, rfl, by show 4 ≤ sizeLine; decide, fun t2 ht2 => ?_⟩
      have w12 := w11.new (sN (o := .tup [.int (5 : Int), .int ((st.seq + 1 : Nat) : Int), .int (i : Int), .ref t1]) (sR _) ht2)
      refine ⟨dv, lay, _, _, (1 - st.reg) * L.rb + i, ⟨5, st.seq + 1, i, .flat (part L nums i)⟩, t2, rfl, w12.d, ?_, fun z => ?_, fun e => (by rw [(ext_new ht2).trans upd_same] at e; cases e), ⟨t1, (ext_new ht2).trans upd_same, ?_⟩, fun H12 d12 => ?_⟩
      · show _ < (st.dev.barrier.writes _).seen.length
        rw [writes_slen, bl1, C.sn]
        exact db_ge hrg hi
      · obtain ⟨z1, z2⟩ := writes_dk _ _ z
        obtain ⟨z3, _⟩ := barrier_wait z1
        rw [z2, z3, List.length_take]
        simp; omega
      · exact (ext_same w11.fr) _ _ ((ext_new (sF s10 ht1)).trans upd_same)
      · have e7 : st.dev.barrier.writes (ws.take (i + 1)) = (st.dev.barrier.writes (ws.take i)).write ((1 - st.reg) * L.rb + i) ⟨5, st.seq + 1, i, .flat (part L nums i)⟩ := by
          rw [take_snoc (hws i hi), writes_app]; rfl
        have w13 : LogW K (ext H0 H6 H7) _ H12 lg dv lay { st with dev := (st.dev.barrier.writes (ws.take i)).write ((1 - st.reg) * L.rb + i) ⟨5, st.seq + 1, i, .flat (part L nums i)⟩, ls := extQ st.ls fr, seq := st.seq + 1, reg := 1 - st.reg } q' := ⟨d12, w12.l⟩
        rw [← e7] at w13
        exact ⟨_, _, _, q', rfl, w13⟩
    · rintro σ H9 ⟨v6, v7, F, q', rfl, w9⟩
      have en : ((L.rb : Int)).toNat = L.rb := by omega
      have hwl : ws.length = L.rb := by show (List.map _ (List.range L.rb)).length = _; rw [List.length_map, List.length_range]
      rw [List.take_of_length_le (by rw [hwl, en]; exact Nat.le_refl _)] at w9
      obtain ⟨p9, hp9⟩ := w9.hd
      refine ⟨_, rfl, lg, _, q'.dx, _, _, rfl, w9.h0, T.cG, T.nG_device, rfl, dv, _, _, rfl, hp9, rfl, dv, lay, F, _, rfl, w9.d, fun x hx => ?_, fun H10 d10 => ?_⟩
      · show x.1 < (st.dev.barrier.writes ws).sure.length
        rw [writes_sure, bl2, C.su]
        obtain ⟨j, ej, _⟩ := writes_wait ws st.dev.barrier
        have hx' : x ∈ (st.dev.barrier.writes ws).waiting := hx
        rw [ej] at hx'
        rcases List.mem_append.mp hx' with z | z
        · exact C.lw x (bl3 x z)
        · obtain ⟨k', hk', e'⟩ := ckWs_mem.mp (List.mem_of_mem_take z)
          rw [e']; exact db_ge hrg hk'
      have w10 : LogW K (ext H0 H6 H7) F H10 lg dv lay (checkpoint L fr st) q' := ⟨d10, w9.l⟩
      refine ⟨_, rfl, lg, _, q'.dx, _, _, rfl, w10.h0, T.cG, T.nG_counts, rfl, q'.cn, _, q'.dc, _, _, rfl, w10.hc, T.cC, T.nC_checkpoints, rfl, _, _, rfl, rfl, ?_⟩
      refine ⟨_, rfl, lg, _, q'.dx, _, _, rfl, w10.h0, T.cG, T.nG_counts, rfl, q'.cn, _, q'.dc, _, rfl, w10.hc, T.cC, T.nC_checkpoints, of_decide_eq_true rfl, ?_⟩
      have w11 := w10.cnt q'.c1 q'.c2 q'.c3 q'.c4 (q'.c5 + 1) q'.c6 q'.c7
      obtain ⟨dl11, hl11⟩ := w11.hl y8
      refine ⟨_, rfl, lg, _, q'.dx, _, _, rfl, w11.h0, T.cG, T.nG_counts, rfl, q'.cn, _, q'.dc, _, _, rfl, w11.hc, T.cC, T.nC_checkpoint_blocks, rfl, _, rfl, lay, _, dl11, _, _, rfl, hl11, T.cL, T.nL_region_blocks, rfl, _, _, rfl, rfl, ?_⟩
      refine ⟨_, rfl, lg, _, q'.dx, _, _, rfl, w11.h0, T.cG, T.nG_counts, rfl, q'.cn, _, q'.dc, _, rfl, w11.hc, T.cC, T.nC_checkpoint_blocks, of_decide_eq_true rfl, ?_⟩
      have w12 := w11.cnt q'.c1 q'.c2 q'.c3 q'.c4 (q'.c5 + 1) (q'.c6 + (L.rb : Int)) q'.c7
      refine ⟨_, rfl, lg, _, q'.dx, _, _, rfl, w12.h0, T.cG, T.nG_counts, rfl, q'.cn, _, q'.dc, _, _, rfl, w12.hc, T.cC, T.nC_barriers, rfl, _, _, rfl, rfl, ?_⟩
      refine ⟨_, rfl, lg, _, q'.dx, _, _, rfl, w12.h0, T.cG, T.nG_counts, rfl, q'.cn, _, q'.dc, _, rfl, w12.hc, T.cC, T.nC_barriers, of_decide_eq_true rfl, ?_⟩
      have w13 := w12.cnt q'.c1 q'.c2 q'.c3 q'.c4 (q'.c5 + 1) (q'.c6 + (L.rb : Int)) (q'.c7 + 2)
      exact k _ fr nf (LogO.shrink (w13.cls y8) (ext_same h6.frame) y)
end

end K30

namespace K30
open PySem PySem.Spec PyProof.Rows L2
/-! ## W15: new logs -/
open K30X
section
variable {P : Program} {w : World} {K : PySem.W.Frag} {mg : Str → Option Value} {base : Heap}
/-- a log that is being made; ks: the lists that it holds -/
structure LB (K : PySem.W.Frag) (H0 F H : Hp) (x dx dv lay : Addr) (d : Dev) (fs : List (Str × V)) (ks : List (Addr × List V)) : Prop where
  d : DevO K F H dv lay d
  s : Same H0 F
  n : H0 x = none
  x : F x = some (.ins (CG K) dx fs)
  k : ∀ z ∈ ks, F z.1 = some (.lst z.2)
section
variable {H0 F H H' : Hp} {x dx dv lay : Addr} {d : Dev} {fs : List (Str × V)} {ks : List (Addr × List V)}
theorem LB.new (b : LB K H0 F H x dx dv lay d fs ks) (s : Same H H') : LB K H0 (ext F H H') H' x dx dv lay d fs ks :=
  ⟨b.d.ext s, sT b.s (ext_same b.d.frame), b.n, (ext_same b.d.frame) _ _ b.x, fun z hz => (ext_same b.d.frame) _ _ (b.k z hz)⟩
theorem LB.newL (b : LB K H0 F H x dx dv lay d fs ks) (s : Same H H') {a : Addr} {xs : List V} (hn : H a = none) (h : H' a = some (.lst xs)) : LB K H0 (ext F H H') H' x dx dv lay d fs ((a, xs) :: ks) :=
  ⟨b.d.ext s, sT b.s (ext_same b.d.frame), b.n, (ext_same b.d.frame) _ _ b.x, fun z hz => by
    rcases List.mem_cons.mp hz with e | hz
    · rw [e]; exact (ext_new hn).trans h
    · exact (ext_same b.d.frame) _ _ (b.k z hz)⟩
theorem LB.put (b : LB K H0 F H x dx dv lay d fs ks) (f : Str) (v : V) : LB K H0 (upd F x (.ins (CG K) dx (putF f v fs))) (upd H x (.ins (CG K) dx (putF f v fs))) x dx dv lay d (putF f v fs) ks :=
  ⟨b.d.put b.x (fun xs e => by cases e), sM b.s b.n, b.n, upd_same, fun z hz => by
    have h := b.k z hz
    rw [upd_ne (fun e => by rw [e, b.x] at h; cases h)]; exact h⟩
theorem LB.hx (b : LB K H0 F H x dx dv lay d fs ks) : H x = some (.ins (CG K) dx fs) := b.d.frame _ _ b.x
end
def log0 (L : Lay) : LS := ⟨List.replicate (L.lastId + 1) 0, [none, none, none], 0, 0, []⟩
def sp_Log___init__ (K : PySem.W.Frag) : Sp := fun vs H Q _ => ∃ (x dx dv lay : Addr) (H0 Hp : Hp) (L : Lay) (d : Dev), vs = [.ref x, .ref dv] ∧ H x = some (.ins (CG K) dx []) ∧ DevO K H0 Hp dv lay d ∧ Same Hp H ∧ Hp x = none ∧ LayAt K H0 lay L ∧ L.Ok ∧
  ∀ H', LogO K H0 H' x dv lay L ⟨d, log0 L, 0, 1⟩ → Q .non H'
theorem sc_Log___init__ : FnScope ["self", "device"] ["self", "device"] (defScope s_Log___init__) := ⟨rfl, rfl, rfl, by decide +kernel, rfl, by decide +kernel, by decide +kernel⟩
theorem mak_Log___init__ (T : Txt K mg) (F : KD K mg "Log" (CG K) "Log.__init__" s_Log___init__) (c_empty_table : C8.Cal P w K mg base 1 "empty_table" (sp_empty_table K) []) (c_Counts : C8.Mak P w K mg base 1 "Counts" (CC K) (sp_Counts___init__ K) []) : C8.Mak P w K mg base 3 "Log" (CG K) (sp_Log___init__ K) [] := by
  obtain ⟨f, fd, F, hM, hm⟩ := F
  refine ⟨f, fd, _, _, hM, F.ok sc_Log___init__ (fun vs H Q E h => ?_) (fun cdv A outer s H vs Q E hr h => ?_), hm, F.bindsN (fun _ _ _ _ _ _ us hl => match us, hl with | [_, _], _ => rfl), .nil⟩
  · obtain ⟨_, _, _, _, _, _, _, _, rfl, _⟩ := h
    rfl
  · obtain ⟨x, dx, dv, lay, H0, Hp, L, d, rfl, hx, hdv, hs, hxn, y, O, k⟩ := h
    have ob := O.bnd
    have b0 : LB K H0 (ext H0 Hp H) H x dx dv lay d [] [] := ⟨hdv.ext hs, ext_same hdv.frame, sF hdv.frame hxn, (ext_new hxn).trans hx, fun z hz => by cases hz⟩
    refine ⟨_, PSs.nox (pss_cons (ps_fld (pv 0) (pv 1) rfl)
      (pss_cons (ps_fld (pv 0) (pe_fld (pv 1) rfl) rfl)
      (pss_cons (ps_fld (pv 0) (C8.pe_c c_empty_table hr (by decide) (by rfl) (pa_cons (pe_fld (pv 1) rfl) pa_nil)) rfl)
      (pss_cons (ps_fld (pv 0) (pe_op op_rep (pe_lst (pa_cons pe_non pa_nil)) (pe_gi T.i_SLOTS rfl)) rfl)
      (pss_cons (ps_fld (pv 0) pe_int rfl)
      (pss_cons (ps_fld (pv 0) pe_int rfl)
      (pss_cons (ps_fld (pv 0) (pe_lst pa_nil) rfl)
      (pss_cons (ps_fld (pv 0) pe_int rfl)
      (pss_cons (ps_fld (pv 0) pe_int rfl)
      (pss_one (ps_fld (pv 0) (pe_mk0 c_Counts hr (by decide) (by rfl)) rfl))))))))))), ?_⟩
    refine ⟨_, rfl, _, rfl, x, _, dx, _, rfl, b0.hx, T.cG, T.nG_device, of_decide_eq_true rfl, ?_⟩
    have b1 := b0.put "device" (.ref dv)
    obtain ⟨p1, h1⟩ := b1.d
    refine ⟨_, rfl, dv, _, p1.dx, _, _, rfl, h1.h0, T.cD, T.nD_layout, rfl, _, rfl, x, _, dx, _, rfl, b1.hx, T.cG, T.nG_layout, of_decide_eq_true rfl, ?_⟩
    have b2 := b1.put "layout" (.ref lay)
    obtain ⟨p2, h2⟩ := b2.d
    refine ⟨_, rfl, dv, _, p2.dx, _, _, rfl, h2.h0, T.cD, T.nD_layout, rfl, lay, L, rfl, (y.same b2.s).same b2.d.frame, O, fun p hp H3 s3 hp3 => ?_⟩
    have b3 := b2.newL s3 hp hp3
    refine ⟨_, rfl, x, _, dx, _, rfl, b3.hx, T.cG, T.nG_present, of_decide_eq_true rfl, ?_⟩
    have b4 := b3.put "present" (.ref p)
    refine ⟨by show 1 ≤ sizeLine; decide, fun p5 hp5 => ?_⟩
    have s5 := sN (o := .lst [.non]) (sR _) hp5
    refine ⟨p5, _, _, rfl, rfl, upd_same, by decide, by decide, by show 3 ≤ sizeLine; decide, fun p6 hp6 => ?_⟩
    have b6 := b4.newL (sN (o := .lst (List.replicate (3 : Int).toNat [V.non]).flatten) s5 hp6) (sF s5 hp6) upd_same
    refine ⟨_, rfl, x, _, dx, _, rfl, b6.hx, T.cG, T.nG_slots, of_decide_eq_true rfl, ?_⟩
    have b7 := b6.put "slots" (.ref p6)
    refine ⟨_, rfl, x, _, dx, _, rfl, b7.hx, T.cG, T.nG_head, of_decide_eq_true rfl, ?_⟩
    have b8 := b7.put "head" (.int 0)
    refine ⟨_, rfl, x, _, dx, _, rfl, b8.hx, T.cG, T.nG_place, of_decide_eq_true rfl, ?_⟩
    have b9 := b8.put "place" (.int 0)
    refine ⟨Nat.zero_le _, fun p10 hp10 => ?_⟩
    have b10 := b9.newL (sN (o := .lst []) (sR _) hp10) hp10 upd_same
    refine ⟨_, rfl, x, _, dx, _, rfl, b10.hx, T.cG, T.nG_queue, of_decide_eq_true rfl, ?_⟩
    have b11 := b10.put "queue" (.ref p10)
    refine ⟨_, rfl, x, _, dx, _, rfl, b11.hx, T.cG, T.nG_last_sequence, of_decide_eq_true rfl, ?_⟩
    have b12 := b11.put "last_sequence" (.int 0)
    refine ⟨_, rfl, x, _, dx, _, rfl, b12.hx, T.cG, T.nG_region, of_decide_eq_true rfl, ?_⟩
    have b13 := b12.put "region" (.int 1)
    intro cn dc hcn hdc hne
    refine ⟨cn, dc, rfl, upd_same, fun H14 bt14 h14 => ⟨rfl, ?_⟩⟩
    have s14 := fun {a : Addr} {o : HO} (e : _ = some o) => bt14 a o (ne_of_none e hcn) (by rw [upd_ne (ne_of_none e hcn), upd_ne (ne_of_none e hdc)]; exact e)
    have b14 := b13.new (H' := H14) fun a o e => s14 e
    refine ⟨_, rfl, x, _, dx, _, rfl, b14.hx, T.cG, T.nG_counts, of_decide_eq_true rfl, ?_⟩
    have b15 := b14.put "counts" (.ref cn)
    have hcx : x ≠ cn := ne_of_none b13.hx hcn
    refine k _ ⟨_, ⟨dx, p, p6, [.non, .non, .non], p10, cn, dc, 0, 0, 0, 0, 0, 0, 0⟩, b15.d, ⟨b15.s, b15.n, ?_, b15.x, ?_, hcx, ?_, ?_, ?_, ?_⟩, y⟩
    · exact sF b13.s (sF b13.d.frame hcn)
    · rw [upd_ne (Ne.symm hcx)]; exact (ext_new hcn).trans h14
    · exact b15.k _ (List.mem_cons_of_mem _ (List.mem_cons_of_mem _ List.mem_cons_self))
    · exact b15.k _ (List.mem_cons_of_mem _ List.mem_cons_self)
    · exact .cons rfl (.cons rfl (.cons rfl .nil))
    · exact b15.k _ List.mem_cons_self
theorem newLS_put (L : Lay) : ({ log0 L with queue := (List.range (L.segs - 1)).map (· + 1) } : LS) = newLS L := rfl
def sp_new_log (K : PySem.W.Frag) : Sp := fun vs H Q _ => ∃ (dv lay : Addr) (H0 : Hp) (L : Lay) (d : Dev), vs = [.ref dv] ∧ DevO K H0 H dv lay d ∧ LayAt K H0 lay L ∧ L.Ok ∧ d.seen.length = L.db ∧ d.sure.length = L.db ∧ (∀ x ∈ d.waiting, x.1 < L.db) ∧
  ∀ H' x fr, NewFree L (newLS L) fr → LogO K H0 H' x dv lay L (checkpoint L fr ⟨d, newLS L, 0, 1⟩) → Q (.ref x) H'
theorem sc_new_log : FnScope ["device", "log"] ["device"] (defScope s_new_log) := ⟨rfl, rfl, rfl, by decide +kernel, rfl, by decide +kernel, by decide +kernel⟩
theorem cal_new_log (T : Txt K mg) (F : FD K mg "new_log" s_new_log) (c_Log : C8.Mak P w K mg base 3 "Log" (CG K) (sp_Log___init__ K) []) (c_write_checkpoint : C8.Cal P w K mg base 3 "write_checkpoint" (sp_write_checkpoint K) []) : C8.Cal P w K mg base 5 "new_log" (sp_new_log K) [] := by
  obtain ⟨f, fd, F, hm⟩ := F
  refine ⟨f, fd, _, _, F.ok sc_new_log (fun vs H Q E h => ?_) (fun cdv A outer s H vs Q E hr h => ?_), hm, F.kp, F.bindsN (fun _ _ _ _ _ _ us hl => match us, hl with | [_], _ => rfl), .nil⟩
  · obtain ⟨_, _, _, _, _, rfl, _⟩ := h
    rfl
  · obtain ⟨dv, lay, H0, L, d, rfl, hd, y, O, h1, h2, h3, k⟩ := h
    have ob := O.bnd
    refine ⟨_, PSs.nox (pss_cons (ps_set (i := 1) sc_new_log.nd rfl (Or.inl rfl) (C8.pe_mk c_Log hr (by decide) (by rfl) (pa_cons (pv 0) pa_nil)))
      (pss_cons (ps_fld (pv 1) (pe_listRg rfl (by rfl) T.b_list (prg_2 (by rfl) T.b_range pe_int (pe_fld (pe_fld (pv 0) rfl) rfl))) rfl)
      (pss_cons (ps_expr (C8.pe_c c_write_checkpoint hr (by decide) (by rfl) (pa_cons (pv 1) pa_nil)))
      (pss_one (ps_ret (pv 1)))))), ?_⟩
    refine ⟨_, rfl, fun x dx hx hdx hne => ?_⟩
    have hH := hd.frame
    have sm : Same H (upd (upd H dx (.own x)) x (.ins (CG K) dx [])) := sM (sN (sR H) hdx) hx
    refine ⟨x, dx, dv, lay, H0, H, L, d, rfl, upd_same, hd, sm, hx, y, O, fun H2 h2' => ⟨rfl, ?_⟩⟩
    obtain ⟨H1, q, w1, y1⟩ := h2'.opn
    obtain ⟨p1, hp1⟩ := w1.d
    obtain ⟨dl, hl⟩ := w1.hl y1
    refine ⟨_, rfl, dv, _, p1.dx, _, _, rfl, hp1.h0, T.cD, T.nD_layout, rfl, lay, _, dl, _, _, rfl, hl, T.cL, T.nL_segments, rfl, _, _, rfl, rfl, RgOk.of_le (by decide) (by have := O.s16; omega) (by decide) (by omega), fun p hp => ?_⟩
    have hrg : rgV 1 (L.segs : Int) = nats ((List.range (L.segs - 1)).map (· + 1)) := by
      unfold rgV nats
      rw [List.map_map, show ((L.segs : Int) - 1).toNat = L.segs - 1 by omega]
      refine List.map_congr_left fun i _ => ?_
      show V.int (1 + (i : Int)) = V.int ((i + 1 : Nat) : Int)
      rw [show (1 : Int) + (i : Int) = ((i + 1 : Nat) : Int) by omega]
    rw [hrg]
    have w2 := w1.new (sN (o := .lst (nats ((List.range (L.segs - 1)).map (· + 1)))) (sR _) hp)
    refine ⟨_, rfl, x, _, q.dx, _, rfl, w2.h0, T.cG, T.nG_queue, of_decide_eq_true rfl, ?_⟩
    have w3 := w2.put q.pr q.sl p q.vsl (newLS L) 0 1 w2.l.p w2.l.sl w2.l.rs ((ext_new hp).trans upd_same)
    refine ⟨_, rfl, x, dv, lay, H0, L, ⟨d, newLS L, 0, 1⟩, rfl, w3.cls y1, O, ⟨h1, h2, h3, ⟨rdl d.seen, newLS_ok O⟩, by show 1 < 2; decide⟩, fun H5 fr nf h5 => ?_⟩
    exact ⟨_, rfl, k _ x fr nf h5⟩
end

end K30

namespace K30
open PySem PySem.Spec PyProof.Rows L2
/-! ## W16: reading a checkpoint's numbers -/
open K30X
def atN (L : Lay) (i : Nat) : Nat := L.lastId + i * (1 + L.lastId)
theorem atN_S (L : Lay) (i : Nat) : atN L (i + 1) = atN L i + 1 + L.lastId := by unfold atN; rw [Nat.add_mul, Nat.one_mul]; omega
/-- read, slot by slot -/
theorem readNums_eq (L : Lay) (nums : List Nat) : readNums L nums = if slotBad L.lastId (nums.drop (atN L 0)) = true then none else if slotBad L.lastId (nums.drop (atN L 1)) = true then none else if slotBad L.lastId (nums.drop (atN L 2)) = true then none
    else readTail L (0 :: nums.take L.lastId) [slotVal L.lastId (nums.drop (atN L 0)), slotVal L.lastId (nums.drop (atN L 1)), slotVal L.lastId (nums.drop (atN L 2))] (nums.drop (atN L 3)) := by
  have e0 : atN L 0 = L.lastId := by unfold atN; omega
  have e1 : atN L 1 = L.lastId + (1 + L.lastId) := by unfold atN; omega
  have e2 : atN L 2 = L.lastId + (1 + L.lastId) + (1 + L.lastId) := by unfold atN; omega
  have e3 : atN L 3 = L.lastId + (1 + L.lastId) + (1 + L.lastId) + (1 + L.lastId) := by unfold atN; omega
  rw [e0, e1, e2, e3]; rfl
theorem headD_drop {xs : List Nat} {a : Nat} (h : a < xs.length) : (xs.drop a).headD 0 = xs[a] := by
  rw [List.drop_eq_getElem_cons h]; rfl
theorem any_pos {xs : List Nat} {m : Int} (h1 : m ∈ xs.map fun (n : Nat) => (n : Int)) (h2 : ∀ y, y ∈ xs.map (fun (n : Nat) => (n : Int)) → y ≤ m) : (0 < m) ↔ xs.any (fun a => decide (0 < a)) = true := by
  rw [List.any_eq_true]
  obtain ⟨k, hk, e⟩ := List.mem_map.mp h1
  constructor
  · intro h; exact ⟨k, hk, decide_eq_true (by omega)⟩
  · rintro ⟨a, ha, h⟩
    have := h2 (a : Int) (List.mem_map.mpr ⟨a, ha, rfl⟩)
    have := of_decide_eq_true h
    omega
theorem nats_ints (xs : List Nat) : nats xs = (xs.map fun (n : Nat) => (n : Int)).map V.int := by unfold nats; rw [List.map_map]; rfl
section
variable {P : Program} {w : World} {K : PySem.W.Frag} {mg : Str → Option Value} {base : Heap}
/-- the numbers read, as a tuple -/
structure RdT (H H' : Hp) (t : Addr) (ls : LS) (p1 p2 p3 : Addr) (vsl : List V) : Prop where
  s : Same H H'
  t : H' t = some (.tup [.ref p1, .ref p2, .int (ls.head : Int), .int (ls.place : Int), .ref p3])
  h1 : H' p1 = some (.lst (nats ls.present))
  h2 : H' p2 = some (.lst vsl)
  h3 : H' p3 = some (.lst (nats ls.queue))
  r : All2 (SlN H H') ls.slots vsl
  n1 : H p1 = none
  n2 : H p2 = none
  n3 : H p3 = none
def sp_read_numbers (K : PySem.W.Frag) : Sp := fun vs H Q _ => ∃ (lay nm : Addr) (L : Lay) (nums : List Nat), vs = [.ref lay, .ref nm] ∧ LayAt K H lay L ∧ L.Ok ∧ H nm = some (.lst (nats nums)) ∧ nums.length = L.rb * L.fan ∧
  (readNums L nums = none → ∀ H', Same H H' → Q .non H') ∧ ∀ ls, readNums L nums = some ls → ∀ H' t p1 p2 p3 vsl, RdT H H' t ls p1 p2 p3 vsl → Q (.ref t) H'
theorem sc_read_numbers : FnScope ["layout", "numbers", "width", "present", "at", "slots", "_", "taken", "addresses", "head", "place", "count", "end"] ["layout", "numbers"] (defScope s_read_numbers) := ⟨rfl, rfl, rfl, by decide +kernel, rfl, by decide +kernel, by decide +kernel⟩
theorem cal_read_numbers (T : Txt K mg) (F : FD K mg "read_numbers" s_read_numbers) : C8.Cal P w K mg base 1 "read_numbers" (sp_read_numbers K) [] := by
  obtain ⟨f, fd, F, hm⟩ := F
  refine ⟨f, fd, _, _, F.ok sc_read_numbers (fun vs H Q E h => ?_) (fun cdv A outer s H vs Q E hr h => ?_), hm, F.kp, F.bindsN (fun _ _ _ _ _ _ us hl => match us, hl with | [_, _], _ => rfl), .nil⟩
  · obtain ⟨_, _, _, _, rfl, _⟩ := h
    rfl
  · obtain ⟨lay, nm, L, nums, rfl, ⟨dl, hl⟩, O, hn, hlen, k0, k1⟩ := h
    have ob := O.bnd
    refine ⟨_, PSs.nox (pss_cons (ps_set (i := 2) sc_read_numbers.nd rfl (Or.inl rfl) (pe_fld (pv 0) rfl))
      (pss_cons (ps_set (i := 3) sc_read_numbers.nd rfl (Or.inl rfl) (pe_op op_cat (pe_lst (pa_cons pe_int pa_nil)) (pe_slice sl_list (pv 1) po_none (po_some (pv 2)))))
      (pss_cons (ps_set (i := 4) sc_read_numbers.nd rfl (Or.inl rfl) (pv 2))
      (pss_cons (ps_set (i := 5) sc_read_numbers.nd rfl (Or.inl rfl) (pe_lst pa_nil))
      (pss_cons (ps_for PassesOwn.never rfl (pi_range1 rfl T.b_range (pa_cons (pe_gi T.i_SLOTS rfl) pa_nil)) (pg_name (i := 6) sc_read_numbers.nd rfl (Or.inl rfl)) (pss_cons (ps_set (i := 7) sc_read_numbers.nd rfl (Or.inl rfl) (pe_ix ix_list (pv 1) (pv 4) (fun _ _ => rfl)))
      (pss_cons (ps_set (i := 8) sc_read_numbers.nd rfl (Or.inl rfl) (pe_slice sl_list (pv 1) (po_some (pe_op op_add (pv 4) pe_int)) (po_some (pe_op op_add (pe_op op_add (pv 4) pe_int) (pv 2)))))
      (pss_cons (ps_set (i := 4) sc_read_numbers.nd rfl (Or.inl rfl) (pe_op op_add (pe_op op_add (pv 4) pe_int) (pv 2)))
      (C8.pss_cut (ps_if (PW.pt (pw_or (pt_cmpR op_gt (pv 7) pe_int (nomark _)) (pw_or1 (PW.pt (pw_and (pt_cmpR op_eq (pv 7) pe_int (nomark _)) (pw_and1 (pt_cmpR op_gt (pe_callB (cr_max rfl) (by rfl) T.b_max (by decide +kernel) (pa_cons (pv 8) pa_nil)) pe_int (nomark _)))))))) (pss_one (ps_ret pe_non)) pss_nil)
      (pss_one (ps_if (pt_cmpR op_eq (pv 7) pe_int (nomark _)) (pss_one (ps_expr (pe_bm PySem.F.plainAttrs_list PySem.F.slot_list_append PySem.F.type_list_append mt_append (pv 5) (pa_cons (pe_op op_cat (pe_lst (pa_cons pe_int pa_nil)) (pv 8)) pa_nil)))) (pss_one (ps_expr (pe_bm PySem.F.plainAttrs_list PySem.F.slot_list_append PySem.F.type_list_append mt_append (pv 5) (pa_cons pe_non pa_nil)))))))))))
      (pss_cons (ps_asg (pe_slice sl_list (pv 1) (po_some (pv 4)) (po_some (pe_op op_add (pv 4) pe_int))) (pg_unl rfl (pgs_cons (pg_name (i := 9) sc_read_numbers.nd rfl (Or.inl rfl)) (pgs_cons (pg_name (i := 10) sc_read_numbers.nd rfl (Or.inl rfl)) (pgs_cons (pg_name (i := 11) sc_read_numbers.nd rfl (Or.inl rfl)) pgs_nil)))))
      (pss_cons (ps_set (i := 12) sc_read_numbers.nd rfl (Or.inl rfl) (pe_op op_add (pe_op op_add (pv 4) pe_int) (pv 11)))
      (C8.pss_cut (ps_if (PW.pt (pw_or (pt_cmpR op_gt (pv 11) (pe_fld (pv 0) rfl) (nomark _)) (pw_or1 (pt_cmpR op_gt (pe_callBK (ck_maxD rfl) (by rfl) T.b_max (by decide +kernel) (pa_cons (pe_slice sl_list (pv 1) (po_some (pv 12)) po_none) pa_nil) (pk_cons pe_int pk_nil)) pe_int (nomark _))))) (pss_one (ps_ret pe_non)) pss_nil)
      (pss_one (ps_ret (pe_tup (pa_cons (pv 3) (pa_cons (pv 5) (pa_cons (pv 9) (pa_cons (pv 10) (pa_cons (pe_slice sl_list (pv 1) (po_some (pe_op op_add (pv 4) pe_int)) (po_some (pv 12))) pa_nil)))))))))))))))), ?_⟩
    have hnl : L.nums ≤ nums.length := by rw [hlen]; exact O.rbfan
    have hnn : L.nums = 4 * L.lastId + 6 + L.segs := rfl
    have hl1 := O.last1
    have hnb : nums.length ≤ 10000 := by
      rw [hlen]; exact Nat.le_trans (Nat.mul_le_mul ob.2.2.2.2.1 ob.2.2.2.1) (by decide)
    have hat : ∀ i, i ≤ 3 → atN L i + (3 - i) * (1 + L.lastId) = L.lastId + 3 * (1 + L.lastId) := fun i hi => by
      unfold atN
      have : i = 0 ∨ i = 1 ∨ i = 2 ∨ i = 3 := by omega
      rcases this with rfl | rfl | rfl | rfl <;> omega
    refine ⟨_, rfl, lay, _, dl, _, _, rfl, hl, T.cL, T.nL_last_id, rfl, ?_⟩
    refine ⟨by show 1 ≤ sizeLine; decide, fun p0 hp0 => ?_⟩
    have s0 := sN (o := .lst [.int 0]) (sR H) hp0
    refine ⟨_, rfl, _, rfl, _, rfl, nm, _, rfl, SqL.of (s0 _ _ hn), fun p1 hp1 => ?_⟩
    have e1 : cutV (nats nums) none (some (L.lastId : Int)) = nats (nums.take L.lastId) := by rw [cutV_to, nats_take]
    rw [e1]
    have s1 := sN (o := .lst (nats (nums.take L.lastId))) s0 hp1
    refine ⟨p0, p1, _, _, rfl, rfl, uN upd_same hp1, upd_same, ?_, fun p2 hp2 => ?_⟩
    · rw [nats_len, List.length_take, show ([V.int 0] : List V).length = 1 from rfl]; exact sz_ok (by omega)
    have e2 : [V.int 0] ++ nats (nums.take L.lastId) = nats (0 :: nums.take L.lastId) := rfl
    rw [e2]
    have s2 := sN (o := .lst (nats (0 :: nums.take L.lastId))) s1 hp2
    refine ⟨_, rfl, ?_⟩
    refine ⟨Nat.zero_le _, fun ps hps => ?_⟩
    have s3 := sN (o := .lst []) s2 hps
    refine ⟨_, rfl, by decide, by decide, for_it walk_range (fun i σ H' => ∃ (v6 v7 v8 : Option V), σ = [some (.ref lay), some (.ref nm), some (.int (L.lastId : Int)), some (.ref p2), some (.int (atN L i : Int)), some (.ref ps), v6, v7, v8, none, none, none, none] ∧ Same H H' ∧ H' p2 = some (.lst (nats (0 :: nums.take L.lastId))) ∧
        (∃ acc, H' ps = some (.lst acc) ∧ All2 (SlX ps H H') ((List.range i).map fun j => slotVal L.lastId (nums.drop (atN L j))) acc) ∧ ∀ j, j < i → slotBad L.lastId (nums.drop (atN L j)) = false)
      ⟨none, none, none, by rw [show atN L 0 = L.lastId by unfold atN; omega]; rfl, s3, uN upd_same hps, ⟨[], upd_same, .nil⟩, fun j hj => absurd hj (Nat.not_lt_zero j)⟩ (fun _ _ _ _ _ => trivial) ?_ ?_⟩
    · rintro i x σ H4 H5 hlt ⟨v6, v7, v8, rfl, s4, h4, ⟨acc, ha, r4⟩, hb4⟩ ⟨rfl, rfl⟩
      have hi : i < 3 := hlt
      have hai := hat i (by omega)
      have hail : atN L i + 1 + L.lastId ≤ L.lastId + 3 * (1 + L.lastId) := by
        have : i = 0 ∨ i = 1 ∨ i = 2 := by omega
        rcases this with rfl | rfl | rfl <;> omega
      have hil : atN L i < nums.length := by omega
      have hpd : (nums.drop (atN L i)).headD 0 = nums[atN L i] := headD_drop hil
      have hdd : ((nums.drop (atN L i)).drop 1).take L.lastId = (nums.drop (atN L i + 1)).take L.lastId := by rw [List.drop_drop]
      refine ⟨_, rfl, _, rfl, nm, _, _, _, rfl, rfl, SqL.of (s4 _ _ hn), atI_nat (j := atN L i) (nats_at hil), ?_⟩
      refine ⟨_, rfl, _, rfl, _, _, rfl, rfl, _, rfl, _, rfl, _, _, rfl, rfl, _, rfl, _, _, rfl, rfl, _, rfl, nm, _, rfl, SqL.of (s4 _ _ hn), fun pa hpa => ?_⟩
      have ec : cutV (nats nums) (some ((atN L i : Int) + 1)) (some ((atN L i : Int) + 1 + (L.lastId : Int))) = nats ((nums.drop (atN L i + 1)).take L.lastId) := by
        rw [show (atN L i : Int) + 1 + (L.lastId : Int) = ((atN L i + 1 + L.lastId : Nat) : Int) by omega, show (atN L i : Int) + 1 = ((atN L i + 1 : Nat) : Int) by omega, cutV_mid, nats_drop, nats_take]
        congr 2
        omega
      rw [ec]
      have s5 := sN (o := .lst (nats ((nums.drop (atN L i + 1)).take L.lastId))) s4 hpa
      refine ⟨_, rfl, _, _, rfl, rfl, _, rfl, _, _, rfl, rfl, ?_⟩
      have htk : ∀ (h : atN L i < nums.length), nums[atN L i] = nums[atN L i] := fun _ => rfl
      let as_ := (nums.drop (atN L i + 1)).take L.lastId
      have hasl : as_.length = L.lastId := by show ((nums.drop (atN L i + 1)).take L.lastId).length = _; rw [List.length_take, List.length_drop]; omega
      have hbad : slotBad L.lastId (nums.drop (atN L i)) = (decide (1 < nums[atN L i]) || (decide (nums[atN L i] = 0) && as_.any fun a => decide (0 < a))) := by
        unfold slotBad; rw [hpd, hdd]
      have none_ : slotBad L.lastId (nums.drop (atN L i)) = true → readNums L nums = none := fun hbt => by
        rw [readNums_eq]
        have : i = 0 ∨ i = 1 ∨ i = 2 := by omega
        rcases this with rfl | rfl | rfl
        · rw [if_pos hbt]
        · rw [if_neg (by rw [hb4 0 (by omega)]; exact Bool.false_ne_true), if_pos hbt]
        · rw [if_neg (by rw [hb4 0 (by omega)]; exact Bool.false_ne_true), if_neg (by rw [hb4 1 (by omega)]; exact Bool.false_ne_true), if_pos hbt]
      refine ⟨fun σ H' => σ = [some (.ref lay), some (.ref nm), some (.int (L.lastId : Int)), some (.ref p2), some (.int ((atN L i : Int) + 1 + (L.lastId : Int))), some (.ref ps), some (.int (0 + (i : Int))), some (.int (nums[atN L i] : Int)), some (.ref pa), none, none, none, none] ∧ H' = upd H5 pa (.lst (nats as_)) ∧ slotBad L.lastId (nums.drop (atN L i)) = false, ?_, ?_⟩
      · refine ⟨_, rfl, _, _, rfl, rfl, _, rfl, ?_⟩
        by_cases c1 : 1 < nums[atN L i]
        · refine dT (by omega) ?_
          exact k0 (none_ (by rw [hbad, decide_eq_true c1]; rfl)) _ s5
        · refine dF (by omega) ?_
          refine ⟨_, rfl, rfl, _, rfl, ?_⟩
          by_cases c2 : nums[atN L i] = 0
          · refine dT (show V.int (nums[atN L i] : Int) = V.int 0 by rw [c2]; rfl) ?_
            refine ⟨_, rfl, pa, as_.map (fun (n : Nat) => (n : Int)), rfl, SqL.of (by rw [upd_same, nats_ints]), by rw [List.length_map, hasl]; exact hl1, fun m m1 m2 => ?_⟩
            refine ⟨_, _, rfl, rfl, _, rfl, ?_⟩
            have ap := any_pos m1 m2
            by_cases c3 : (0 : Int) < m
            · refine dT c3 ?_
              exact k0 (none_ (by rw [hbad, decide_eq_true c2, ap.mp c3]; simp)) _ s5
            · refine dF c3 ?_
              refine ⟨rfl, rfl, ?_⟩
              rw [hbad, decide_eq_false c1, Bool.false_or, decide_eq_true c2, Bool.true_and]
              cases q : as_.any fun a => decide (0 < a) with
              | false => rfl
              | true => exact absurd (ap.mpr q) c3
          · refine dF (fun z => c2 (by injection z; omega)) ?_
            refine iteF ?_
            refine ⟨rfl, rfl, ?_⟩
            rw [hbad, decide_eq_false c1, decide_eq_false c2]; rfl
      · rintro σ H6 ⟨rfl, rfl, hnb⟩
        have hacc : acc.length ≤ 3 := by rw [← r4.1, List.length_map, List.length_range]; omega
        have nps : pa ≠ ps := fun e => by rw [e, ha] at hpa; cases hpa
        have np2 : p2 ≠ ps := fun e => by rw [e, upd_same] at hps; cases hps
        have rng : (List.range (i + 1)).map (fun j => slotVal L.lastId (nums.drop (atN L j))) = (List.range i).map (fun j => slotVal L.lastId (nums.drop (atN L j))) ++ [slotVal L.lastId (nums.drop (atN L i))] := by rw [List.range_succ, List.map_append]; rfl
        have hsv : slotVal L.lastId (nums.drop (atN L i)) = if nums[atN L i] = 1 then some (0 :: as_) else none := by unfold slotVal; rw [hpd, hdd]
        have hb5 : ∀ j, j < i + 1 → slotBad L.lastId (nums.drop (atN L j)) = false := fun j hj => by
          by_cases e : j = i
          · rw [e]; exact hnb
          · exact hb4 j (by omega)
        have esig : (some (V.int ((atN L i : Int) + 1 + (L.lastId : Int)))) = some (V.int (atN L (i + 1) : Int)) := by
          rw [atN_S, show ((atN L i + 1 + L.lastId : Nat) : Int) = (atN L i : Int) + 1 + (L.lastId : Int) by omega]
        rw [esig]
        refine ⟨_, rfl, rfl, _, rfl, ?_⟩
        have haH : upd H5 pa (.lst (nats as_)) ps = some (.lst acc) := uN ha hpa
        by_cases c1 : nums[atN L i] = 1
        · refine dT (show V.int (nums[atN L i] : Int) = V.int 1 by rw [c1]; rfl) ?_
          refine ⟨_, rfl, .inl ⟨rfl, _, SqL.of haH⟩, by show 1 ≤ sizeLine; decide, fun q0 hq0 => ?_⟩
          have s6 := sN (o := .lst [.int 0]) s5 hq0
          refine ⟨_, rfl, q0, pa, _, _, rfl, rfl, upd_same, uN upd_same hq0, ?_, fun q1 hq1 => ?_⟩
          · rw [nats_len, hasl, show ([V.int 0] : List V).length = 1 from rfl]; exact sz_ok (by omega)
          have s7 := sN (o := .lst ([.int 0] ++ nats as_)) s6 hq1
          have q1ps : q1 ≠ ps := fun e => by rw [e, show upd (upd H5 pa (.lst (nats as_))) q0 (.lst [.int 0]) ps = some (.lst acc) from uN haH hq0] at hq1; cases hq1
          refine ⟨ps, acc, _, rfl, rfl, uN (uN haH hq0) hq1, sz_lt (by omega), ?_⟩
          refine ⟨_, _, _, rfl, sM s7 (sF s2 hps), ?_, ⟨_, upd_same, ?_⟩, hb5⟩
          · rw [upd_ne np2]; exact uN (uN (uN h4 hpa) hq0) hq1
          · rw [rng, hsv, if_pos c1]
            refine All2.snoc (r4.mono fun o v z => SlX.put (SlX.new (SlX.new (SlX.new z hpa) hq0) hq1)) ⟨⟨⟨q1, rfl, ?_⟩, fun a q => by cases q; exact sF s6 hq1⟩, fun q => q1ps (by injection q)⟩
            rw [upd_ne q1ps, upd_same]; rfl
        · refine dF (fun z => c1 (by injection z; omega)) ?_
          refine ⟨_, rfl, .inl ⟨rfl, _, SqL.of haH⟩, ps, acc, _, rfl, rfl, haH, sz_lt (by omega), ?_⟩
          refine ⟨_, _, _, rfl, sM s5 (sF s2 hps), ?_, ⟨_, upd_same, ?_⟩, hb5⟩
          · rw [upd_ne np2]; exact uN h4 hpa
          · rw [rng, hsv, if_neg c1]
            exact All2.snoc (r4.mono fun o v z => SlX.put (SlX.new z hpa)) ⟨⟨rfl, fun _ q => (by cases q)⟩, fun q => (by cases q)⟩
    · rintro σ H4 ⟨v6, v7, v8, rfl, s4, h4, ⟨acc, ha, r4⟩, hb4⟩
      have e3 : atN L (Int.toNat 3) = atN L 3 := rfl
      have hrl : 3 + L.segs ≤ (nums.drop (atN L 3)).length := by rw [List.length_drop]; have := hat 3 (by omega); omega
      obtain ⟨hd, pl, ct, r, er⟩ : ∃ hd pl ct r, nums.drop (atN L 3) = hd :: pl :: ct :: r := by
        match q : nums.drop (atN L 3), hrl with
        | [], h => exact absurd h (by simp)
        | [_], h => exact absurd h (by simp; omega)
        | [_, _], h => exact absurd h (by simp; omega)
        | a :: b :: c :: r, _ => exact ⟨a, b, c, r, rfl⟩
      have rl : r.length + 3 = nums.length - atN L 3 := by have := congrArg List.length er; rw [List.length_drop] at this; simp at this; omega
      have er3 : ∀ k, nums.drop (atN L 3 + 3 + k) = r.drop k := fun k => by
        rw [show atN L 3 + 3 + k = atN L 3 + (3 + k) by omega, ← List.drop_drop, er, Nat.add_comm 3 k]; rfl
      have rn : readNums L nums = readTail L (0 :: nums.take L.lastId) ((List.range 3).map fun j => slotVal L.lastId (nums.drop (atN L j))) (hd :: pl :: ct :: r) := by
        rw [readNums_eq, if_neg (by rw [hb4 0 (by decide)]; exact Bool.false_ne_true), if_neg (by rw [hb4 1 (by decide)]; exact Bool.false_ne_true), if_neg (by rw [hb4 2 (by decide)]; exact Bool.false_ne_true), er]; rfl
      have rt : readTail L (0 :: nums.take L.lastId) ((List.range 3).map fun j => slotVal L.lastId (nums.drop (atN L j))) (hd :: pl :: ct :: r) =
          if L.segs < ct ∨ ((r.drop ct).any fun a => decide (0 < a)) = true then none else some ⟨0 :: nums.take L.lastId, (List.range 3).map fun j => slotVal L.lastId (nums.drop (atN L j)), hd, pl, r.take ct⟩ := by
        unfold readTail
        rw [show 3 + (hd :: pl :: ct :: r).getD 2 0 = ct + 3 by show 3 + ct = _; omega]
        rfl
      rw [rt] at rn
      refine ⟨_, rfl, _, rfl, _, rfl, _, rfl, _, _, rfl, rfl, _, rfl, nm, _, rfl, SqL.of (s4 _ _ hn), fun pc hpc => ?_⟩
      have ec : cutV (nats nums) (some (atN L 3 : Int)) (some ((atN L 3 : Int) + 3)) = nats [hd, pl, ct] := by
        rw [show (atN L 3 : Int) + 3 = ((atN L 3 + 3 : Nat) : Int) by omega, cutV_mid, nats_drop, nats_take, er, show atN L 3 + 3 - atN L 3 = 3 by omega]; rfl
      rw [e3, ec]
      have s5 := sN (o := .lst (nats [hd, pl, ct])) s4 hpc
      refine ⟨pc, _, rfl, SqL.of upd_same, rfl, _, _, rfl, _, _, rfl, _, _, rfl, rfl, ?_⟩
      refine ⟨_, rfl, _, _, rfl, rfl, _, rfl, _, _, rfl, rfl, ?_⟩
      have ei : (atN L 3 : Int) + 3 + (ct : Int) = ((atN L 3 + 3 + ct : Nat) : Int) := by omega
      refine ⟨fun σ H' => σ = [some (.ref lay), some (.ref nm), some (.int (L.lastId : Int)), some (.ref p2), some (.int (atN L 3 : Int)), some (.ref ps), v6, v7, v8, some (.int (hd : Int)), some (.int (pl : Int)), some (.int (ct : Int)), some (.int ((atN L 3 : Int) + 3 + (ct : Int)))] ∧
        (∃ pd, upd H4 pc (.lst (nats [hd, pl, ct])) pd = none ∧ H' = upd (upd H4 pc (.lst (nats [hd, pl, ct]))) pd (.lst (nats (r.drop ct)))) ∧ ¬ (L.segs < ct) ∧ ((r.drop ct).any fun a => decide (0 < a)) = false, ?_, ?_⟩
      · refine ⟨_, rfl, _, rfl, lay, _, dl, _, _, rfl, s5 _ _ hl, T.cL, T.nL_segments, rfl, _, _, rfl, rfl, _, rfl, ?_⟩
        by_cases c1 : L.segs < ct
        · refine dT (by omega) ?_
          exact k0 (by rw [rn, if_pos (.inl c1)]) _ s5
        · refine dF (by omega) ?_
          refine ⟨_, rfl, _, rfl, _, rfl, nm, _, rfl, SqL.of (s5 _ _ hn), fun pd hpd => ?_⟩
          have ed : cutV (nats nums) (some ((atN L 3 : Int) + 3 + (ct : Int))) none = nats (r.drop ct) := by
            rw [ei, cutV_from, nats_drop, er3]
          rw [ed]
          have s6 := sN (o := .lst (nats (r.drop ct))) s5 hpd
          refine ⟨pd, (r.drop ct).map (fun (n : Nat) => (n : Int)), _, rfl, rfl, SqL.of (by rw [upd_same, nats_ints]), fun hz => ?_, fun m m1 m2 => ?_⟩
          · refine ⟨_, _, rfl, rfl, _, rfl, ?_⟩
            refine dF (by decide) ?_
            refine ⟨rfl, ⟨pd, hpd, rfl⟩, c1, ?_⟩
            rw [List.map_eq_nil_iff.mp hz]; rfl
          · refine ⟨_, _, rfl, rfl, _, rfl, ?_⟩
            have ap := any_pos m1 m2
            by_cases c3 : (0 : Int) < m
            · refine dT c3 ?_
              exact k0 (by rw [rn, if_pos (.inr (ap.mp c3))]) _ s6
            · refine dF c3 ?_
              refine ⟨rfl, ⟨pd, hpd, rfl⟩, c1, ?_⟩
              cases q : (r.drop ct).any fun a => decide (0 < a) with
              | false => rfl
              | true => exact absurd (ap.mpr q) c3
      · rintro σ H6 ⟨rfl, ⟨pd, hpd, rfl⟩, c1, c2⟩
        have s6 := sN (o := .lst (nats (r.drop ct))) s5 hpd
        refine ⟨_, rfl, _, rfl, _, rfl, _, rfl, _, rfl, _, rfl, _, _, rfl, rfl, _, rfl, _, rfl, _, rfl, nm, _, rfl, SqL.of (s6 _ _ hn), fun p3 hp3 => ?_⟩
        have e3 : cutV (nats nums) (some ((atN L 3 : Int) + 3)) (some ((atN L 3 : Int) + 3 + (ct : Int))) = nats (r.take ct) := by
          rw [ei, show (atN L 3 : Int) + 3 = ((atN L 3 + 3 : Nat) : Int) by omega, cutV_mid, nats_drop, nats_take, show atN L 3 + 3 + ct - (atN L 3 + 3) = ct by omega]
          have := er3 0
          rw [Nat.add_zero, List.drop_zero] at this
          rw [this]
        rw [e3]
        have s7 := sN (o := .lst (nats (r.take ct))) s6 hp3
        refine ⟨by show 5 ≤ sizeLine; decide, fun t ht => ?_⟩
        have hc2 : ¬ (L.segs < ct ∨ ((r.drop ct).any fun a => decide (0 < a)) = true) := by
          rintro (q | q)
          · exact c1 q
          · rw [c2] at q; cases q
        have ok4 : ∀ {b v}, H4 b = some v → upd (upd (upd (upd H4 pc (.lst (nats [hd, pl, ct]))) pd (.lst (nats (r.drop ct)))) p3 (.lst (nats (r.take ct)))) t (.tup [.ref p2, .ref ps, .int (hd : Int), .int (pl : Int), .ref p3]) b = some v := fun h => uN (uN (uN (uN h hpc) hpd) hp3) ht
        exact k1 _ (by rw [rn, if_neg hc2]) _ t p2 ps p3 acc ⟨sN s7 ht, upd_same, ok4 h4, ok4 ha, uN upd_same ht, r4.mono fun o v z => (SlX.new (SlX.new (SlX.new (SlX.new z hpc) hpd) hp3) ht).1, sF s1 hp2, sF s2 hps, sF s6 hp3⟩
end

end K30

namespace K30
open PySem PySem.Spec PyProof.Rows L2
/-! ## W17: recovery -/
open K30X
/-- the numbers of a region's first blocks -/
def preN (L : Lay) (rd : Rd) (r i : Nat) : List Nat := (List.range i).flatMap fun k => match rd (r * L.rb + k) with
  | some b => b.body.xs
  | none => []
theorem preN_S {L : Lay} {rd : Rd} {r i : Nat} {b : Blk} (h : rd (r * L.rb + i) = some b) : preN L rd r (i + 1) = preN L rd r i ++ b.body.xs := by
  unfold preN
  rw [List.range_succ, List.flatMap_append]
  simp only [List.flatMap_cons, List.flatMap_nil, List.append_nil, h]
section
variable {P : Program} {w : World} {K : PySem.W.Frag} {mg : Str → Option Value} {base : Heap}
def sp_checkpoint_in (K : PySem.W.Frag) : Sp := fun vs H Q _ => ∃ (dv lay : Addr) (H0 : Hp) (L : Lay) (d : Dev) (r : Nat), vs = [.ref dv, .int (r : Int)] ∧ DevO K H0 H dv lay d ∧ LayAt K H0 lay L ∧ L.Ok ∧ r < 2 ∧ (∀ a b, rdl d.seen a = some b → b.Wt L) ∧
  ((∀ s n, ¬ CkIn L (rdl d.seen) r s n) → ∀ H', Same H H' → Q .non H') ∧ ∀ s n, CkIn L (rdl d.seen) r s n → n.length = L.rb * L.fan → ∀ H' t p, Same H H' → H t = Option.none → H p = Option.none → H' t = some (.tup [.int (s : Int), .ref p]) → H' p = some (.lst (nats n)) → Q (.ref t) H'
theorem sc_checkpoint_in : FnScope ["device", "region", "layout", "start", "first", "numbers", "rank", "block"] ["device", "region"] (defScope s_checkpoint_in) := ⟨rfl, rfl, rfl, by decide +kernel, rfl, by decide +kernel, by decide +kernel⟩
theorem cal_checkpoint_in (T : Txt K mg) (F : FD K mg "checkpoint_in" s_checkpoint_in) (c_region_start : C8.Cal P w K mg base 1 "region_start" (sp_region_start K) []) (c_Device_read : C8.Met P w K mg base 1 (CD K) "read" (sp_Device_read K) []) (c_read_numbers : C8.Cal P w K mg base 1 "read_numbers" (sp_read_numbers K) []) : C8.Cal P w K mg base 2 "checkpoint_in" (sp_checkpoint_in K) [] := by
  obtain ⟨f, fd, F, hm⟩ := F
  refine ⟨f, fd, _, _, F.ok sc_checkpoint_in (fun vs H Q E h => ?_) (fun cdv A outer s H vs Q E hr h => ?_), hm, F.kp, F.bindsN (fun _ _ _ _ _ _ us hl => match us, hl with | [_, _], _ => rfl), .nil⟩
  · obtain ⟨_, _, _, _, _, _, rfl, _⟩ := h
    rfl
  · obtain ⟨dv, lay, H0, L, d, r, rfl, hd0, y, O, hr2, hw, k0, k1⟩ := h
    obtain ⟨p, hd⟩ := hd0
    have ob := O.bnd
    have y' : LayAt K H lay L := y.same hd.s
    obtain ⟨dl, hl⟩ := y'
    refine ⟨_, PSs.nox (pss_cons (ps_set (i := 2) sc_checkpoint_in.nd rfl (Or.inl rfl) (pe_fld (pv 0) rfl))
      (pss_cons (ps_set (i := 3) sc_checkpoint_in.nd rfl (Or.inl rfl) (C8.pe_c c_region_start hr (by decide) (by rfl) (pa_cons (pv 2) (pa_cons (pv 1) pa_nil))))
      (pss_cons (ps_set (i := 4) sc_checkpoint_in.nd rfl (Or.inl rfl) (C8.pe_mt c_Device_read hr (by decide) (pv 0) (pa_cons (pv 3) pa_nil)))
      (pss_cons (ps_set (i := 5) sc_checkpoint_in.nd rfl (Or.inl rfl) (pe_lst pa_nil))
      (pss_cons (ps_for PassesOwn.never rfl (pi_range1 rfl T.b_range (pa_cons (pe_fld (pv 2) rfl) pa_nil)) (pg_name (i := 6) sc_checkpoint_in.nd rfl (Or.inl rfl)) (pss_cons (ps_set (i := 7) sc_checkpoint_in.nd rfl (Or.inl rfl) (C8.pe_mt c_Device_read hr (by decide) (pv 0) (pa_cons (pe_op op_add (pv 3) (pv 6)) pa_nil)))
      (C8.pss_cut (ps_if (PW.pt (pw_or (pt_cmpR op_isN (pv 7) pe_non (nomark _)) (pw_or (pt_cmpR op_ne (pe_ix ix_tup (pv 7) pe_int (fun _ _ => rfl)) (pe_gi T.i_PART rfl) (nomark _)) (pw_or (pt_cmpR op_ne (pe_ix ix_tup (pv 7) pe_int (fun _ _ => rfl)) (pe_ix ix_tup (pv 4) pe_int (fun _ _ => rfl)) (nomark _)) (pw_or1 (pt_cmpR op_ne (pe_ix ix_tup (pv 7) pe_int (fun _ _ => rfl)) (pv 6) (nomark _))))))) (pss_one (ps_ret pe_non)) pss_nil)
      (pss_one (ps_expr (pe_bm PySem.F.plainAttrs_list PySem.F.slot_list_extend PySem.F.type_list_extend mt_extendT (pv 5) (pa_cons (pe_ix ix_tup (pv 7) pe_int (fun _ _ => rfl)) pa_nil)))))))
      (pss_cons (ps_if (pt_cmpR op_isN (C8.pe_c c_read_numbers hr (by decide) (by rfl) (pa_cons (pv 2) (pa_cons (pv 5) pa_nil))) pe_non (nomark _)) (pss_one (ps_ret pe_non)) pss_nil)
      (pss_one (ps_ret (pe_tup (pa_cons (pe_ix ix_tup (pv 4) pe_int (fun _ _ => rfl)) (pa_cons (pv 5) pa_nil))))))))))), ?_⟩
    refine ⟨_, rfl, dv, _, p.dx, _, _, rfl, hd.h0, T.cD, T.nD_layout, rfl, ?_⟩
    refine ⟨_, rfl, _, rfl, lay, r, L, rfl, hr2, ⟨dl, hl⟩, ?_⟩
    refine ⟨_, rfl, dv, _, _, rfl, hd.h0, rfl, _, rfl, dv, lay, H0, d, r * L.rb, rfl, ⟨p, hd⟩, fun v4 hv4 => ?_⟩
    refine ⟨Nat.zero_le _, fun nm hnm => ?_⟩
    have s1 := sN (o := .lst []) (sR H) hnm
    have hrb := O.rb1
    refine ⟨_, rfl, lay, _, dl, _, _, rfl, s1 _ _ hl, T.cL, T.nL_region_blocks, rfl, _, rfl, by omega, by omega, for_it walk_range (fun i σ H' => ∃ (v6 v7 : Option V), σ = [some (.ref dv), some (.int (r : Int)), some (.ref lay), some (.int ((r * L.rb : Nat) : Int)), some v4, some (.ref nm), v6, v7] ∧ Same H H' ∧
        H' nm = some (.lst (nats (preN L (rdl d.seen) r i))) ∧ (preN L (rdl d.seen) r i).length = i * L.fan ∧ ∀ k, k < i → ∃ b f, rdl d.seen (r * L.rb + k) = some b ∧ rdl d.seen (r * L.rb) = some f ∧ b.kind = 5 ∧ b.seq = f.seq ∧ b.rank = k)
      ⟨none, none, rfl, s1, upd_same, by rw [Nat.zero_mul]; rfl, fun k hk => absurd hk (Nat.not_lt_zero k)⟩ (fun _ _ _ _ _ => trivial) ?_ ?_⟩
    · rintro i x σ H4 H5 hlt ⟨v6, v7, rfl, s4, h4, hl4, g4⟩ yy
      obtain ⟨rfl, rfl⟩ := yy
      have hi : i < L.rb := by omega
      have ei : (fun (j : Nat) => V.int (0 + (j : Int))) i = V.int (i : Int) := by
        show V.int (0 + (i : Int)) = _
        rw [Int.zero_add]
      rw [ei]
      have d4 : DevO K H0 H5 dv lay d := DevO.same ⟨p, hd⟩ s4
      refine ⟨_, rfl, dv, _, _, rfl, s4 _ _ hd.h0, rfl, _, rfl, _, rfl, _, _, rfl, rfl, dv, lay, H0, d, r * L.rb + i, congrArg (fun z => [V.ref dv, V.int z]) (by omega), d4, fun v7 hv7 => ?_⟩
      refine ⟨fun σ H' => σ = [some (.ref dv), some (.int (r : Int)), some (.ref lay), some (.int ((r * L.rb : Nat) : Int)), some v4, some (.ref nm), some (.int (i : Int)), some v7] ∧ H' = H5 ∧
        ∃ b f, rdl d.seen (r * L.rb + i) = some b ∧ rdl d.seen (r * L.rb) = some f ∧ b.kind = 5 ∧ b.seq = f.seq ∧ b.rank = i, ?_, ?_⟩
      · have bad : (¬ ∃ b f, rdl d.seen (r * L.rb + i) = some b ∧ rdl d.seen (r * L.rb) = some f ∧ b.kind = 5 ∧ b.seq = f.seq ∧ b.rank = i) → Q .non H5 := fun z => k0 (fun s n c => z (c.1 i hi)) H5 s4
        cases eb : rdl d.seen (r * L.rb + i) with
        | none =>
          rw [eb] at hv7
          cases hv7
          refine ⟨_, rfl, rfl, _, rfl, ?_⟩
          refine dT rfl ?_
          exact bad fun ⟨b, f, e, _⟩ => by rw [eb] at e; cases e
        | some b =>
          rw [eb] at hv7
          obtain ⟨t7, rfl, tb, ht7, hb7⟩ := hv7
          obtain ⟨f, ef⟩ : ∃ f, rdl d.seen (r * L.rb) = some f := by
            by_cases z : i = 0
            · subst z; exact ⟨b, eb⟩
            · obtain ⟨_, f, _, e, _⟩ := g4 0 (by omega)
              exact ⟨f, e⟩
          rw [ef] at hv4
          obtain ⟨t4, rfl, tb4, ht4, hb4⟩ := hv4
          refine ⟨_, rfl, rfl, _, rfl, ?_⟩
          refine dF (fun z => by cases z) ?_
          refine ⟨_, rfl, t7, _, _, _, rfl, rfl, SqT.of ht7, atI_nat (j := 0) rfl, rfl, _, rfl, ?_⟩
          by_cases c1 : b.kind = 5
          · refine dNF (show V.int (b.kind : Int) = V.int 5 by rw [c1]; rfl) ?_
            refine ⟨_, rfl, t7, _, _, _, rfl, rfl, SqT.of ht7, atI_nat (j := 1) rfl, _, rfl, t4, _, _, _, rfl, rfl, SqT.of (s4 _ _ ht4), atI_nat (j := 1) rfl, rfl, _, rfl, ?_⟩
            by_cases c2 : b.seq = f.seq
            · refine dNF (show V.int (b.seq : Int) = V.int (f.seq : Int) by rw [c2]) ?_
              refine ⟨_, rfl, t7, _, _, _, rfl, rfl, SqT.of ht7, atI_nat (j := 2) rfl, _, rfl, rfl, _, rfl, ?_⟩
              by_cases c3 : b.rank = i
              · refine dNF (show V.int (b.rank : Int) = V.int (i : Int) by rw [c3]) ?_
                exact ⟨rfl, rfl, b, f, rfl, ef, c1, c2, c3⟩
              · refine dNT (fun z => c3 (by injection z; omega)) ?_
                exact bad fun ⟨b', f', e1, e2, _, _, e5⟩ => by rw [eb] at e1; cases e1; exact c3 e5
            · refine dNT (fun z => c2 (by injection z; omega)) ?_
              exact bad fun ⟨b', f', e1, e2, _, e4, _⟩ => by rw [eb] at e1; cases e1; rw [ef] at e2; cases e2; exact c2 e4
          · refine dNT (fun z => c1 (by injection z; omega)) ?_
            exact bad fun ⟨b', f', e1, e2, e3, _, _⟩ => by rw [eb] at e1; cases e1; exact c1 e3
      · rintro σ H6 ⟨rfl, rfl, b, f, e1, e2, e3, e4, e5⟩
        rw [e1] at hv7
        obtain ⟨t7, rfl, tb, ht7, hb7⟩ := hv7
        have wb := hw _ _ e1
        obtain ⟨xs, ex⟩ := flat_of wb (by omega)
        rw [ex] at hb7
        have hb7' : H6 tb = some (.tup (nats xs)) := hb7
        have hxs : xs.length = L.fan := by have := wb.p e3; rw [ex] at this; exact this
        have hpre : preN L (rdl d.seen) r (i + 1) = preN L (rdl d.seen) r i ++ xs := by rw [preN_S e1, ex]; rfl
        have hlen : (preN L (rdl d.seen) r i).length + xs.length = (i + 1) * L.fan := by rw [hl4, hxs, Nat.add_mul, Nat.one_mul]
        have hle : (i + 1) * L.fan ≤ 10000 := Nat.le_trans (Nat.mul_le_mul (show i + 1 ≤ L.rb by omega) (Nat.le_refl _)) (Nat.le_trans (Nat.mul_le_mul ob.2.2.2.2.1 ob.2.2.2.1) (by decide))
        refine ⟨_, rfl, .inl ⟨rfl, _, SqL.of h4⟩, _, rfl, t7, _, _, _, rfl, rfl, SqT.of ht7, atI_nat (j := 3) rfl, nm, tb, _, _, rfl, rfl, h4, hb7', ?_, ?_⟩
        · rw [nats_len, nats_len, hlen]; exact sz_ok (by omega)
        refine ⟨_, _, rfl, sM s4 hnm, ?_, ?_, fun k hk => ?_⟩
        · rw [upd_same, hpre, nats_app]
        · rw [hpre, List.length_append]; exact hlen
        · by_cases e : k = i
          · exact ⟨b, f, e ▸ e1, e2, e3, e4, e5.trans e.symm⟩
          · exact g4 k (by omega)
    · rintro σ H4 ⟨v6, v7, rfl, s4, h4, hl4, g4⟩
      have erb : Int.toNat (L.rb : Int) = L.rb := by omega
      rw [erb] at h4 hl4 g4
      obtain ⟨b0, f, e0, ef, _, _, _⟩ := g4 0 hrb
      rw [ef] at hv4
      obtain ⟨t4, rfl, tb4, ht4, hb4⟩ := hv4
      refine ⟨_, rfl, _, rfl, lay, nm, L, preN L (rdl d.seen) r L.rb, rfl, ⟨dl, s4 _ _ hl⟩, O, h4, hl4, fun rn H5 s5 => ?_, fun ls rn H5 t p1 p2 p3 vsl R => ?_⟩
      · refine ⟨rfl, _, rfl, ?_⟩
        refine dT rfl ?_
        refine k0 (fun s n c => ?_) _ (sT s4 s5)
        obtain ⟨_, e, hs, _⟩ := c
        rw [show n = preN L (rdl d.seen) r L.rb from e, rn] at hs
        cases hs
      · refine ⟨rfl, _, rfl, ?_⟩
        refine dF (fun z => by cases z) ?_
        have s5 := sT s4 R.s
        refine ⟨_, rfl, t4, _, _, _, rfl, rfl, SqT.of (s5 _ _ ht4), atI_nat (j := 1) rfl, _, rfl, by show 2 ≤ sizeLine; decide, fun t' ht' => ?_⟩
        exact k1 f.seq _ ⟨fun k hk => g4 k hk, rfl, by show (readNums L (preN L (rdl d.seen) r L.rb)).isSome = true; rw [rn]; rfl, f, ef, rfl⟩ hl4 _ t' nm (sN s5 ht') (sF s5 ht') hnm upd_same (uN (R.s _ _ h4) ht')
end

end K30

namespace K30
open PySem PySem.Spec PyProof.Rows L2
/-! ## W18: batches found -/
open K30X
section
variable {P : Program} {w : World} {K : PySem.W.Frag} {mg : Str → Option Value} {base : Heap}
def sp_batch_at (K : PySem.W.Frag) : Sp := fun vs H Q _ => ∃ (dv lay : Addr) (H0 : Hp) (L : Lay) (d : Dev) (g p s : Nat), vs = [.ref dv, .int (g : Int), .int (p : Int), .int (s : Int)] ∧ DevO K H0 H dv lay d ∧ LayAt K H0 lay L ∧ L.Ok ∧ (∀ a b, rdl d.seen a = some b → b.Wt L) ∧
  ((∀ b, ¬ Whole L (rdl d.seen) g p s b) → ∀ H', Same H H' → Q .non H') ∧ ∀ b, Whole L (rdl d.seen) g p s b → ∀ H' t, Same H H' → BlkR H' b t → Q (.ref t) H'
theorem sc_batch_at : FnScope ["device", "segment", "place", "sequence", "layout", "start", "summary", "count", "rank", "block"] ["device", "segment", "place", "sequence"] (defScope s_batch_at) := ⟨rfl, rfl, rfl, by decide +kernel, rfl, by decide +kernel, by decide +kernel⟩
theorem cal_batch_at (T : Txt K mg) (F : FD K mg "batch_at" s_batch_at) (c_address_at : C8.Cal P w K mg base 1 "address_at" (sp_address_at K) []) (c_Device_read : C8.Met P w K mg base 1 (CD K) "read" (sp_Device_read K) []) (c_is_payload : C8.Cal P w K mg base 1 "is_payload" (sp_is_payload K) []) : C8.Cal P w K mg base 2 "batch_at" (sp_batch_at K) [] := by
  obtain ⟨f, fd, F, hm⟩ := F
  refine ⟨f, fd, _, _, F.ok sc_batch_at (fun vs H Q E h => ?_) (fun cdv A outer s H vs Q E hr h => ?_), hm, F.kp, F.bindsN (fun _ _ _ _ _ _ us hl => match us, hl with | [_, _, _, _], _ => rfl), .nil⟩
  · obtain ⟨_, _, _, _, _, _, _, _, rfl, _⟩ := h
    rfl
  · obtain ⟨dv, lay, H0, L, d, g, p, s, rfl, hd0, y, O, hw, k0, k1⟩ := h
    obtain ⟨q, hd⟩ := hd0
    have ob := O.bnd
    have y' : LayAt K H lay L := y.same hd.s
    obtain ⟨dl, hl⟩ := y'
    refine ⟨_, PSs.nox (pss_cons (ps_set (i := 4) sc_batch_at.nd rfl (Or.inl rfl) (pe_fld (pv 0) rfl))
      (C8.pss_cut (ps_if (PW.pt (pw_or (pt_cmpR op_ge (pv 1) (pe_fld (pv 4) rfl) (nomark _)) (pw_or1 (pt_cmpR op_ge (pv 2) (pe_fld (pv 4) rfl) (nomark _))))) (pss_one (ps_ret pe_non)) pss_nil)
      (pss_cons (ps_set (i := 5) sc_batch_at.nd rfl (Or.inl rfl) (C8.pe_c c_address_at hr (by decide) (by rfl) (pa_cons (pv 4) (pa_cons (pv 1) (pa_cons (pv 2) pa_nil)))))
      (pss_cons (ps_set (i := 6) sc_batch_at.nd rfl (Or.inl rfl) (C8.pe_mt c_Device_read hr (by decide) (pv 0) (pa_cons (pv 5) pa_nil)))
      (C8.pss_cut (ps_if (PW.pt (pw_or (pt_cmpR op_isN (pv 6) pe_non (nomark _)) (pw_or (pt_cmpR op_notIn_seq (pe_ix ix_tup (pv 6) pe_int (fun _ _ => rfl)) (pe_tup (pa_cons (pe_gi T.i_COMMIT rfl) (pa_cons (pe_gi T.i_MOVE rfl) pa_nil))) (by rfl)) (pw_or (pt_cmpR op_ne (pe_ix ix_tup (pv 6) pe_int (fun _ _ => rfl)) (pv 3) (nomark _)) (pw_or1 (pt_cmpR op_ne (pe_ix ix_tup (pv 6) pe_int (fun _ _ => rfl)) pe_int (nomark _))))))) (pss_one (ps_ret pe_non)) pss_nil)
      (C8.pss_cut (ps_set (i := 7) sc_batch_at.nd rfl (Or.inl rfl) (pe_callB call_len_seq (by rfl) T.b_len PySem.boot_len (pa_cons (pe_ix ix_tup (pv 6) pe_int (fun _ _ => rfl)) pa_nil)))
      (C8.pss_cut (ps_if (pt_cmpR op_eq (pe_ix ix_tup (pv 6) pe_int (fun _ _ => rfl)) (pe_gi T.i_COMMIT rfl) (nomark _)) (pss_one (ps_set (i := 7) sc_batch_at.nd rfl (Or.inl rfl) (pe_callB call_len_seq (by rfl) T.b_len PySem.boot_len (pa_cons (pe_ix ix_tup (pe_ix ix_tup (pv 6) pe_int (fun _ _ => rfl)) pe_int (fun _ _ => rfl)) pa_nil)))) pss_nil)
      (pss_cons (ps_if (pt_cmpR op_ge (pe_op op_add (pv 2) (pv 7)) (pe_fld (pv 4) rfl) (nomark _)) (pss_one (ps_ret pe_non)) pss_nil)
      (pss_cons (ps_for PassesOwn.never rfl (pi_range2 rfl T.b_range (pa_cons pe_int (pa_cons (pe_op op_add (pv 7) pe_int) pa_nil))) (pg_name (i := 8) sc_batch_at.nd rfl (Or.inl rfl)) (pss_cons (ps_set (i := 9) sc_batch_at.nd rfl (Or.inl rfl) (C8.pe_mt c_Device_read hr (by decide) (pv 0) (pa_cons (pe_op op_add (pv 5) (pv 8)) pa_nil)))
      (pss_one (ps_if (PW.pt (pw_or (pt_not (pt_val (C8.pe_c c_is_payload hr (by decide) (by rfl) (pa_cons (pv 9) pa_nil)))) (pw_or (pt_cmpR op_ne (pe_ix ix_tup (pv 9) pe_int (fun _ _ => rfl)) (pv 3) (nomark _)) (pw_or1 (pt_cmpR op_ne (pe_ix ix_tup (pv 9) pe_int (fun _ _ => rfl)) (pv 8) (nomark _)))))) (pss_one (ps_ret pe_non)) pss_nil))))
      (pss_one (ps_ret (pv 6)))))))))))), ?_⟩
    refine ⟨_, rfl, dv, _, q.dx, _, _, rfl, hd.h0, T.cD, T.nD_layout, rfl, ?_⟩
    refine ⟨fun σ H' => σ = [some (.ref dv), some (.int (g : Int)), some (.int (p : Int)), some (.int (s : Int)), some (.ref lay), none, none, none, none, none] ∧ H' = H ∧ g < L.segs ∧ p < L.blks, ?_, ?_⟩
    · refine ⟨_, rfl, _, rfl, lay, _, dl, _, _, rfl, hl, T.cL, T.nL_segments, rfl, _, _, rfl, rfl, _, rfl, ?_⟩
      by_cases c1 : g ≥ L.segs
      · refine dT (by omega) ?_
        exact k0 (fun b z => by have := z.hg; omega) H (sR H)
      · refine dF (by omega) ?_
        refine ⟨_, rfl, _, rfl, lay, _, dl, _, _, rfl, hl, T.cL, T.nL_segment_blocks, rfl, _, _, rfl, rfl, _, rfl, ?_⟩
        by_cases c2 : p ≥ L.blks
        · refine dT (by omega) ?_
          exact k0 (fun b z => by have := z.hp; omega) H (sR H)
        · refine dF (by omega) ?_
          exact ⟨rfl, rfl, by omega, by omega⟩
    rintro σ H1 ⟨rfl, rfl, hg, hp⟩
    refine ⟨_, rfl, _, rfl, _, rfl, lay, g, p, L, rfl, ⟨dl, hl⟩, O, ?_⟩
    refine ⟨_, rfl, dv, _, _, rfl, hd.h0, rfl, _, rfl, dv, lay, H0, d, L.ad g p, rfl, ⟨q, hd⟩, fun v6 hv6 => ?_⟩
    refine ⟨fun σ H' => σ = [some (.ref dv), some (.int (g : Int)), some (.int (p : Int)), some (.int (s : Int)), some (.ref lay), some (.int (L.ad g p : Int)), some v6, none, none, none] ∧ Same H1 H' ∧
      ∃ b t, v6 = .ref t ∧ BlkR H1 b t ∧ rdl d.seen (L.ad g p) = some b ∧ (b.kind = 1 ∨ b.kind = 2) ∧ b.seq = s ∧ b.rank = 0, ?_, ?_⟩
    · have bad : (∀ b, rdl d.seen (L.ad g p) = some b → (b.kind = 1 ∨ b.kind = 2) → b.seq = s → b.rank = 0 → False) → ∀ H', Same H1 H' → Q .non H' := fun z => k0 fun b c => z b c.at_ c.k c.sq c.r
      cases eb : rdl d.seen (L.ad g p) with
      | none =>
        rw [eb] at hv6
        cases hv6
        refine ⟨_, rfl, rfl, _, rfl, ?_⟩
        refine dT rfl ?_
        exact bad (fun b e => by rw [eb] at e; cases e) _ (sR _)
      | some b =>
        rw [eb] at hv6
        obtain ⟨t, rfl, tb, ht, hb⟩ := hv6
        have hbR : BlkR H1 b t := ⟨tb, ht, hb⟩
        refine ⟨_, rfl, rfl, _, rfl, ?_⟩
        refine dF (fun z => by cases z) ?_
        refine ⟨_, rfl, t, _, _, _, rfl, rfl, SqT.of ht, atI_nat (j := 0) rfl, by show 2 ≤ sizeLine; decide, fun pt hpt => ?_⟩
        have s2 := sN (o := .tup [.int 1, .int 2]) (sR H1) hpt
        refine ⟨pt, [.int 1, .int 2], rfl, .inr (SqT.of upd_same), rfl, rfl, _, rfl, ?_⟩
        have ein : inV (.int (b.kind : Int)) [.int 1, .int 2] = decide (b.kind = 1 ∨ b.kind = 2) := by
          have := inV_nats (k := b.kind) (ks := [1, 2])
          rw [show nats [1, 2] = [V.int 1, V.int 2] from rfl] at this
          rw [this]
          congr 1
          simp
        by_cases c1 : b.kind = 1 ∨ b.kind = 2
        · rw [show (if true = true then !inV (V.int (b.kind : Int)) [V.int 1, V.int 2] else inV (V.int (b.kind : Int)) [V.int 1, V.int 2]) = false by rw [if_pos rfl, ein, decide_eq_true c1]; rfl]
          refine iteF ?_
          refine ⟨_, rfl, t, _, _, _, rfl, rfl, SqT.of (s2 _ _ ht), atI_nat (j := 1) rfl, _, rfl, rfl, _, rfl, ?_⟩
          by_cases c2 : b.seq = s
          · refine dNF (show V.int (b.seq : Int) = V.int (s : Int) by rw [c2]) ?_
            refine ⟨_, rfl, t, _, _, _, rfl, rfl, SqT.of (s2 _ _ ht), atI_nat (j := 2) rfl, rfl, _, rfl, ?_⟩
            by_cases c3 : b.rank = 0
            · refine dNF (show V.int (b.rank : Int) = V.int 0 by rw [c3]; rfl) ?_
              exact ⟨rfl, s2, b, t, rfl, hbR, rfl, c1, c2, c3⟩
            · refine dNT (fun z => c3 (by injection z; omega)) ?_
              exact bad (fun b' e _ _ e5 => by rw [eb] at e; cases e; exact c3 e5) _ s2
          · refine dNT (fun z => c2 (by injection z; omega)) ?_
            exact bad (fun b' e _ e4 _ => by rw [eb] at e; cases e; exact c2 e4) _ s2
        · rw [show (if true = true then !inV (V.int (b.kind : Int)) [V.int 1, V.int 2] else inV (V.int (b.kind : Int)) [V.int 1, V.int 2]) = true by rw [if_pos rfl, ein, decide_eq_false c1]; rfl]
          refine iteT ?_
          exact bad (fun b' e e3 _ _ => by rw [eb] at e; cases e; exact c1 e3) _ s2
    rintro σ H2 ⟨rfl, s2, b, t, rfl, hbR1, eb, c1, c2, c3⟩
    have hbR : BlkR H2 b t := hbR1.tk (TK.of s2)
    obtain ⟨tb, ht, hb⟩ := hbR
    have wb := hw _ _ eb
    refine ⟨fun σ H' => H' = H2 ∧ ∃ c : Int, σ = [some (.ref dv), some (.int (g : Int)), some (.int (p : Int)), some (.int (s : Int)), some (.ref lay), some (.int (L.ad g p : Int)), some (.ref t), some (.int c), none, none] ∧ (isCom b.body = false → c = (b.body.cnt : Int)), ?_, ?_⟩
    · cases hbb : b.body with
      | com ids used act =>
        rw [hbb] at hb
        obtain ⟨t1, t2, hb0, hb1, hb2⟩ := hb
        exact ⟨_, rfl, t, _, _, _, rfl, rfl, SqT.of ht, atI_nat (j := 3) rfl, tb, _, rfl, .inr (SqT.of hb0), rfl, _, rfl, fun z => by cases z⟩
      | flat xs =>
        rw [hbb] at hb
        have hb0 : H2 tb = some (.tup (nats xs)) := hb
        exact ⟨_, rfl, t, _, _, _, rfl, rfl, SqT.of ht, atI_nat (j := 3) rfl, tb, _, rfl, .inr (SqT.of hb0), rfl, _, rfl, fun _ => by rw [nats_len]; rfl⟩
    rintro σ H3 ⟨rfl, c, rfl, hc⟩
    refine ⟨fun σ H' => H' = H3 ∧ σ = [some (.ref dv), some (.int (g : Int)), some (.int (p : Int)), some (.int (s : Int)), some (.ref lay), some (.int (L.ad g p : Int)), some (.ref t), some (.int (b.body.cnt : Int)), none, none], ?_, ?_⟩
    · refine ⟨_, rfl, t, _, _, _, rfl, rfl, SqT.of ht, atI_nat (j := 0) rfl, rfl, _, rfl, ?_⟩
      cases hbb : b.body with
      | com ids used act =>
        rw [hbb] at hb
        obtain ⟨t1, t2, hb0, hb1, hb2⟩ := hb
        have k1' : b.kind = 1 := wb.c.mp (by rw [hbb]; rfl)
        refine dT (show V.int (b.kind : Int) = V.int 1 by rw [k1']; rfl) ?_
        exact ⟨_, rfl, t, _, _, _, rfl, rfl, SqT.of ht, atI_nat (j := 3) rfl, tb, _, _, _, rfl, rfl, SqT.of hb0, atI_nat (j := 0) rfl, t1, _, rfl, .inr (SqT.of hb1), rfl, by rw [nats_len]; rfl⟩
      | flat xs =>
        have k1' : b.kind ≠ 1 := fun e => by have := wb.c.mpr e; rw [hbb] at this; cases this
        refine dF (fun z => k1' (by injection z; omega)) ?_
        rw [hc (by rw [hbb]; rfl), hbb]
        exact ⟨rfl, rfl⟩
    rintro σ H4 ⟨rfl, rfl⟩
    refine ⟨_, rfl, _, rfl, _, _, rfl, rfl, _, rfl, lay, _, dl, _, _, rfl, s2 _ _ hl, T.cL, T.nL_segment_blocks, rfl, _, _, rfl, rfl, _, rfl, ?_⟩
    by_cases c4 : p + b.body.cnt ≥ L.blks
    · refine dT (by omega) ?_
      exact k0 (fun b' z => by have := z.fit; rw [z.at_] at eb; cases eb; omega) _ s2
    refine dF (by omega) ?_
    have b32 := O.b32
    refine ⟨_, rfl, _, _, rfl, rfl, _, _, rfl, ⟨by decide, by decide, by omega, by omega⟩, for_it walk_range (fun i σ H' => ∃ (v8 v9 : Option V), σ = [some (.ref dv), some (.int (g : Int)), some (.int (p : Int)), some (.int (s : Int)), some (.ref lay), some (.int (L.ad g p : Int)), some (.ref t), some (.int (b.body.cnt : Int)), v8, v9] ∧ Same H4 H' ∧
      ∀ j, j < i → ∃ q, rdl d.seen (L.ad g p + (j + 1)) = some q ∧ (q.kind = 3 ∨ q.kind = 4) ∧ q.seq = s ∧ q.rank = j + 1)
      ⟨none, none, rfl, sR _, fun j hj => absurd hj (Nat.not_lt_zero j)⟩ (fun _ _ _ _ _ => trivial) ?_ ?_⟩
    · rintro i x σ H5 H6 hlt ⟨v8, v9, rfl, s5, g5⟩ yy
      obtain ⟨rfl, rfl⟩ := yy
      have hi : i < b.body.cnt := by omega
      have ei : (fun (j : Nat) => V.int (1 + (j : Int))) i = V.int ((i + 1 : Nat) : Int) := by
        show V.int (1 + (i : Int)) = _
        rw [show (1 : Int) + (i : Int) = ((i + 1 : Nat) : Int) by omega]
      rw [ei]
      have s25 := sT s2 s5
      have d6 : DevO K H0 H6 dv lay d := DevO.same ⟨q, hd⟩ s25
      refine ⟨_, rfl, dv, _, _, rfl, s25 _ _ hd.h0, rfl, _, rfl, _, rfl, _, _, rfl, rfl, dv, lay, H0, d, L.ad g p + (i + 1), congrArg (fun z => [V.ref dv, V.int z]) (by omega), d6, fun v9 hv9 => ?_⟩
      have bad : (∀ q, rdl d.seen (L.ad g p + (i + 1)) = some q → (q.kind = 3 ∨ q.kind = 4) → q.seq = s → q.rank = i + 1 → False) → ∀ H', Same H1 H' → Q .non H' := fun z => k0 fun b' c => by
        have e1 := c.at_
        rw [eb] at e1; cases e1
        obtain ⟨q', e2, e3, e4, e5⟩ := c.more i hi
        exact z q' e2 e3 e4 e5
      refine ⟨_, rfl, _, _, rfl, hv9, fun H7 s7 => ?_⟩
      have s17 := sT s25 s7
      cases eq : rdl d.seen (L.ad g p + (i + 1)) with
      | none =>
        refine ⟨_, rfl, ?_⟩
        refine iteT ?_
        exact bad (fun q e => by rw [eq] at e; cases e) _ s17
      | some b' =>
        rw [eq] at hv9
        obtain ⟨t', rfl, tb', ht', hb'⟩ := hv9
        refine ⟨_, rfl, ?_⟩
        by_cases c6 : b'.kind = 3 ∨ b'.kind = 4
        · refine dNF c6 ?_
          refine ⟨_, rfl, t', _, _, _, rfl, rfl, SqT.of (s7 _ _ ht'), atI_nat (j := 1) rfl, _, rfl, rfl, _, rfl, ?_⟩
          by_cases c7 : b'.seq = s
          · refine dNF (show V.int (b'.seq : Int) = V.int (s : Int) by rw [c7]) ?_
            refine ⟨_, rfl, t', _, _, _, rfl, rfl, SqT.of (s7 _ _ ht'), atI_nat (j := 2) rfl, _, rfl, rfl, _, rfl, ?_⟩
            by_cases c8 : b'.rank = i + 1
            · refine dNF (show V.int (b'.rank : Int) = V.int ((i + 1 : Nat) : Int) by rw [c8]) ?_
              refine ⟨_, _, rfl, sT s5 s7, fun j hj => ?_⟩
              by_cases e : j = i
              · rw [e]; exact ⟨b', eq, c6, c7, c8⟩
              · exact g5 j (by omega)
            · refine dNT (fun z => c8 (by injection z; omega)) ?_
              exact bad (fun q e _ _ e5 => by rw [eq] at e; cases e; exact c8 e5) _ s17
          · refine dNT (fun z => c7 (by injection z; omega)) ?_
            exact bad (fun q e _ e4 _ => by rw [eq] at e; cases e; exact c7 e4) _ s17
        · refine dNT c6 ?_
          exact bad (fun q e e3 _ _ => by rw [eq] at e; cases e; exact c6 e3) _ s17
    · rintro σ H5 ⟨v8, v9, rfl, s5, g5⟩
      refine ⟨_, rfl, ?_⟩
      exact k1 b ⟨hg, hp, eb, c1, c2, c3, by omega, fun j hj => g5 j (by omega)⟩ _ t (sT s2 s5) (hbR1.tk (TK.of (sT s2 s5)))
end

end K30

namespace K30
open PySem PySem.Spec PyProof.Rows L2
/-! ## W19: the next batch -/
open K30X
theorem take_sm {L : Lay} {ls : LS} (h : ls.Sm) (b : Body) : (take L ls b).Sm := by
  cases b with
  | com ids used act =>
    have hl : (commitT ls.present (L.ad ls.head ls.place + 1) ids used).length ≤ 1000 := by
      unfold commitT; rw [List.length_map, List.length_range]; exact h.tl _ tabs_p
    refine ⟨by show (slotsAfter _ _ _).length = 3; rw [slotsAfter_len]; exact h.s3, fun t ht => ?_⟩
    rcases tabs_of ht with e | e
    · rw [e]; exact hl
    · rcases slotsAfter_mem e with e | e
      · rw [e]; exact hl
      · exact h.tl _ (tabs_s e)
  | flat xs =>
    refine ⟨by show (List.map _ _).length = 3; rw [List.length_map]; exact h.s3, fun t ht => ?_⟩
    rcases tabs_of ht with e | e
    · rw [e]; show (List.map _ _).length ≤ _; rw [List.length_map]; exact h.tl _ tabs_p
    · obtain ⟨o, ho, e2⟩ := List.mem_map.mp (show some t ∈ ls.slots.map _ from e)
      cases o with
      | none => cases e2
      | some t' =>
        injection e2 with e2
        rw [← e2]; unfold moveT; rw [List.length_map]; exact h.tl _ (tabs_s ho)
theorem Wt.sm {L : Lay} (O : L.Ok) {b : Blk} (h : b.Wt L) (k : b.kind = 1 ∨ b.kind = 2) : b.body.Sm := by
  have ob := O.bnd
  exact ⟨by have := h.m k; omega, h.u⟩
section
variable {P : Program} {w : World} {K : PySem.W.Frag} {mg : Str → Option Value} {base : Heap}
def sp_take_next (K : PySem.W.Frag) : Sp := fun vs H Q _ => ∃ (lg dv lay : Addr) (H0 : Hp) (L : Lay) (st : St) (s : Nat), vs = [.ref lg, .int (s : Int)] ∧ LogO K H0 H lg dv lay L st ∧ L.Ok ∧ st.ls.Sm ∧ (∀ a b, st.rd a = some b → b.Wt L) ∧
  (NoStep L st.rd st.ls s → ∀ H', LogO K H0 H' lg dv lay L st → Q (.bl false) H') ∧ ∀ ls', Step L st.rd st.ls s ls' → ls'.Sm → ∀ H', LogO K H0 H' lg dv lay L { st with ls := ls' } → Q (.bl true) H'
theorem sc_take_next : FnScope ["log", "sequence", "summary"] ["log", "sequence"] (defScope s_take_next) := ⟨rfl, rfl, rfl, by decide +kernel, rfl, by decide +kernel, by decide +kernel⟩
theorem cal_take_next (T : Txt K mg) (F : FD K mg "take_next" s_take_next) (c_batch_at : C8.Cal P w K mg base 2 "batch_at" (sp_batch_at K) []) (c_enter_segment : C8.Cal P w K mg base 1 "enter_segment" (sp_enter_segment K) []) (c_take_batch : C8.Cal P w K mg base 2 "take_batch" (sp_take_batch K) []) : C8.Cal P w K mg base 3 "take_next" (sp_take_next K) [] := by
  obtain ⟨f, fd, F, hm⟩ := F
  refine ⟨f, fd, _, _, F.ok sc_take_next (fun vs H Q E h => ?_) (fun cdv A outer s H vs Q E hr h => ?_), hm, F.kp, F.bindsN (fun _ _ _ _ _ _ us hl => match us, hl with | [_, _], _ => rfl), .nil⟩
  · obtain ⟨_, _, _, _, _, _, _, rfl, _⟩ := h
    rfl
  · obtain ⟨lg, dv, lay, H0, L, st, s, rfl, h, O, sm, hw, k0, k1⟩ := h
    obtain ⟨H1, q, w, y⟩ := h.opn
    obtain ⟨p, hp⟩ := w.hd
    have ob := O.bnd
    refine ⟨_, PSs.nox (C8.pss_cut (ps_set (i := 2) sc_take_next.nd rfl (Or.inl rfl) (C8.pe_c c_batch_at hr (by decide) (by rfl) (pa_cons (pe_fld (pv 0) rfl) (pa_cons (pe_fld (pv 0) rfl) (pa_cons (pe_fld (pv 0) rfl) (pa_cons (pv 1) pa_nil))))))
      (C8.pss_cut (ps_if (PW.pt (pw_or (pt_cmpR op_isN (pv 2) pe_non (nomark _)) (pw_or1 (pt_cmpR op_ne (pe_ix ix_tup (pv 2) pe_int (fun _ _ => rfl)) (pe_gi T.i_COMMIT rfl) (nomark _))))) (pss_cons (ps_if (pt_cmpR op_eq (pe_callB call_len_seq (by rfl) T.b_len PySem.boot_len (pa_cons (pe_fld (pv 0) rfl) pa_nil)) pe_int (nomark _)) (pss_one (ps_ret pe_bl)) pss_nil)
      (pss_cons (ps_set (i := 2) sc_take_next.nd rfl (Or.inl rfl) (C8.pe_c c_batch_at hr (by decide) (by rfl) (pa_cons (pe_fld (pv 0) rfl) (pa_cons (pe_ix ix_list (pe_fld (pv 0) rfl) pe_int (fun _ _ => rfl)) (pa_cons pe_int (pa_cons (pv 1) pa_nil))))))
      (pss_cons (ps_if (pt_cmpR op_isN (pv 2) pe_non (nomark _)) (pss_one (ps_ret pe_bl)) pss_nil)
      (pss_one (ps_expr (C8.pe_c c_enter_segment hr (by decide) (by rfl) (pa_cons (pv 0) pa_nil))))))) pss_nil)
      (pss_cons (ps_expr (C8.pe_c c_take_batch hr (by decide) (by rfl) (pa_cons (pv 0) (pa_cons (pe_ix ix_tup (pv 2) pe_int (fun _ _ => rfl)) (pa_cons (pe_ix ix_tup (pv 2) pe_int (fun _ _ => rfl)) pa_nil)))))
      (pss_one (ps_ret pe_bl))))), ?_⟩
    have yH1 : LayAt K H1 lay L := y.same w.l.s
    refine ⟨fun σ H' => ∃ v, σ = [some (.ref lg), some (.int (s : Int)), some v] ∧ LogW K H0 H1 H' lg dv lay st q ∧ ((v = .non ∧ ∀ b, ¬ Whole L st.rd st.ls.head st.ls.place s b) ∨ ∃ b t, v = .ref t ∧ BlkR H' b t ∧ Whole L st.rd st.ls.head st.ls.place s b), ?_, ?_⟩
    · refine ⟨_, rfl, lg, _, q.dx, _, _, rfl, w.h0, T.cG, T.nG_device, rfl, _, rfl, lg, _, q.dx, _, _, rfl, w.h0, T.cG, T.nG_head, rfl, _, rfl, lg, _, q.dx, _, _, rfl, w.h0, T.cG, T.nG_place, rfl, _, rfl, ?_⟩
      exact ⟨dv, lay, H1, L, st.dev, st.ls.head, st.ls.place, s, rfl, w.d, yH1, O, hw, fun nw H2 s2 => ⟨_, rfl, ⟨DevO.same w.d s2, w.l⟩, .inl ⟨rfl, nw⟩⟩, fun b wh H2 t s2 hb => ⟨_, rfl, ⟨DevO.same w.d s2, w.l⟩, .inr ⟨b, t, rfl, hb, wh⟩⟩⟩
    rintro σ H2 ⟨v, rfl, w2, hv⟩
    refine ⟨fun σ H' => ∃ l2 b t, σ = [some (.ref lg), some (.int (s : Int)), some (.ref t)] ∧ LogO K H0 H' lg dv lay L { st with ls := l2 } ∧ BlkR H' b t ∧ l2.Sm ∧ (b.kind = 1 ∨ b.kind = 2) ∧ b.Wt L ∧ Step L st.rd st.ls s (take L l2 b.body), ?_, ?_⟩
    · have second : (∀ b, Whole L st.rd st.ls.head st.ls.place s b → b.kind ≠ 1) → (st.ls.queue = [] → Q (.bl false) H2) ∧ (∀ g r, st.ls.queue = g :: r → (∀ b, ¬ Whole L st.rd g 0 s b) → ∀ H', Same H2 H' → Q (.bl false) H') := fun no =>
        ⟨fun e => k0 ⟨no, fun g r e' => by rw [e] at e'; cases e'⟩ _ (w2.cls y), fun g r e z H' s' => k0 ⟨no, fun g' r' e' b => by rw [e] at e'; cases e'; exact z b⟩ _ ((LogW.cls ⟨DevO.same w2.d s', w2.l⟩) y)⟩
      rcases hv with ⟨rfl, nw⟩ | ⟨b, t, rfl, hb, wh⟩
      · have no : ∀ b, Whole L st.rd st.ls.head st.ls.place s b → b.kind ≠ 1 := fun b z => absurd z (nw b)
        refine ⟨_, rfl, rfl, _, rfl, ?_⟩
        refine dT rfl ?_
        cases eq : st.ls.queue with
        | nil =>
          refine ⟨_, rfl, lg, _, q.dx, _, _, rfl, w2.h0, T.cG, T.nG_queue, rfl, q.qu, _, rfl, .inl (SqL.of w2.hq), rfl, _, rfl, ?_⟩
          refine dT (show V.int ((nats st.ls.queue).length : Int) = V.int 0 by rw [eq]; rfl) ?_
          exact (second no).1 eq
        | cons g r =>
          refine ⟨_, rfl, lg, _, q.dx, _, _, rfl, w2.h0, T.cG, T.nG_queue, rfl, q.qu, _, rfl, .inl (SqL.of w2.hq), rfl, _, rfl, ?_⟩
          refine dF (fun z => by rw [eq] at z; injection z with z; rw [nats_len, List.length_cons] at z; omega) ?_
          have h0q : (nats st.ls.queue)[0]? = some (V.int (g : Int)) := by rw [eq]; rfl
          refine ⟨_, rfl, lg, _, q.dx, _, _, rfl, w2.h0, T.cG, T.nG_device, rfl, _, rfl, lg, _, q.dx, _, _, rfl, w2.h0, T.cG, T.nG_queue, rfl, q.qu, _, _, _, rfl, rfl, SqL.of w2.hq, atI_nat (j := 0) h0q, _, rfl, ?_⟩
          refine ⟨dv, lay, H1, L, st.dev, g, 0, s, rfl, w2.d, yH1, O, hw, fun nw H3 s3 => ?_, fun b2 wh2 H3 t2 s3 hb2 => ?_⟩
          · refine ⟨_, rfl, rfl, _, rfl, ?_⟩
            refine dT rfl ?_
            exact (second no).2 g r eq nw _ s3
          · refine ⟨_, rfl, rfl, _, rfl, ?_⟩
            refine dF (fun z => by cases z) ?_
            have w3 : LogW K H0 H1 H3 lg dv lay st q := ⟨DevO.same w2.d s3, w2.l⟩
            refine ⟨_, rfl, lg, dv, lay, _, L, st, rfl, (w3.cls y).tups, fun z => (by rw [eq] at z; cases z), fun H4 h4 => ?_⟩
            have s34 : BlkR H4 b2 t2 := by
              have : BlkR (extT H0 H3) b2 t2 := by
                obtain ⟨tb, z1, z2⟩ := hb2
                refine ⟨tb, extT_tup z1, ?_⟩
                cases hbb : b2.body with
                | com ids used act =>
                  rw [hbb] at z2
                  obtain ⟨t1, t2, z3, z4, z5⟩ := z2
                  exact ⟨t1, t2, extT_tup z3, extT_tup z4, extT_tup z5⟩
                | flat xs =>
                  rw [hbb] at z2
                  exact extT_tup z2
              exact this.tk (TK.of h4.frame)
            exact ⟨enter st.ls, b2, t2, rfl, LogO.shrink h4 (extT_same (w3.cls y).frame) y, s34, enter_sm sm, wh2.k, hw _ _ wh2.at_, .inr ⟨no, g, r, b2, eq, wh2, rfl⟩⟩
      · obtain ⟨tb, ht, hb⟩ := hb
        refine ⟨_, rfl, rfl, _, rfl, ?_⟩
        refine dF (fun z => by cases z) ?_
        refine ⟨_, rfl, t, _, _, _, rfl, rfl, SqT.of ht, atI_nat (j := 0) rfl, rfl, _, rfl, ?_⟩
        by_cases c1 : b.kind = 1
        · refine dNF (show V.int (b.kind : Int) = V.int 1 by rw [c1]; rfl) ?_
          exact ⟨st.ls, b, t, rfl, w2.cls y, ⟨tb, ht, hb⟩, sm, wh.k, hw _ _ wh.at_, .inl ⟨b, wh, c1, rfl⟩⟩
        refine dNT (fun z => c1 (by injection z; omega)) ?_
        have no : ∀ b, Whole L st.rd st.ls.head st.ls.place s b → b.kind ≠ 1 := fun b' z e => by
          have e1 := z.at_
          rw [wh.at_] at e1; cases e1
          exact c1 e
        cases eq : st.ls.queue with
        | nil =>
          refine ⟨_, rfl, lg, _, q.dx, _, _, rfl, w2.h0, T.cG, T.nG_queue, rfl, q.qu, _, rfl, .inl (SqL.of w2.hq), rfl, _, rfl, ?_⟩
          refine dT (show V.int ((nats st.ls.queue).length : Int) = V.int 0 by rw [eq]; rfl) ?_
          exact (second no).1 eq
        | cons g r =>
          refine ⟨_, rfl, lg, _, q.dx, _, _, rfl, w2.h0, T.cG, T.nG_queue, rfl, q.qu, _, rfl, .inl (SqL.of w2.hq), rfl, _, rfl, ?_⟩
          refine dF (fun z => by rw [eq] at z; injection z with z; rw [nats_len, List.length_cons] at z; omega) ?_
          have h0q : (nats st.ls.queue)[0]? = some (V.int (g : Int)) := by rw [eq]; rfl
          refine ⟨_, rfl, lg, _, q.dx, _, _, rfl, w2.h0, T.cG, T.nG_device, rfl, _, rfl, lg, _, q.dx, _, _, rfl, w2.h0, T.cG, T.nG_queue, rfl, q.qu, _, _, _, rfl, rfl, SqL.of w2.hq, atI_nat (j := 0) h0q, _, rfl, ?_⟩
          refine ⟨dv, lay, H1, L, st.dev, g, 0, s, rfl, w2.d, yH1, O, hw, fun nw H3 s3 => ?_, fun b2 wh2 H3 t2 s3 hb2 => ?_⟩
          · refine ⟨_, rfl, rfl, _, rfl, ?_⟩
            refine dT rfl ?_
            exact (second no).2 g r eq nw _ s3
          · refine ⟨_, rfl, rfl, _, rfl, ?_⟩
            refine dF (fun z => by cases z) ?_
            have w3 : LogW K H0 H1 H3 lg dv lay st q := ⟨DevO.same w2.d s3, w2.l⟩
            refine ⟨_, rfl, lg, dv, lay, _, L, st, rfl, (w3.cls y).tups, fun z => (by rw [eq] at z; cases z), fun H4 h4 => ?_⟩
            have s34 : BlkR H4 b2 t2 := by
              have : BlkR (extT H0 H3) b2 t2 := by
                obtain ⟨tb, z1, z2⟩ := hb2
                refine ⟨tb, extT_tup z1, ?_⟩
                cases hbb : b2.body with
                | com ids used act =>
                  rw [hbb] at z2
                  obtain ⟨t1, t2, z3, z4, z5⟩ := z2
                  exact ⟨t1, t2, extT_tup z3, extT_tup z4, extT_tup z5⟩
                | flat xs =>
                  rw [hbb] at z2
                  exact extT_tup z2
              exact this.tk (TK.of h4.frame)
            exact ⟨enter st.ls, b2, t2, rfl, LogO.shrink h4 (extT_same (w3.cls y).frame) y, s34, enter_sm sm, wh2.k, hw _ _ wh2.at_, .inr ⟨no, g, r, b2, eq, wh2, rfl⟩⟩
    · rintro σ H3 ⟨l2, b, t, rfl, h3, ⟨tb, ht, hb⟩, sm2, bk, wb, stp⟩
      refine ⟨_, rfl, _, rfl, t, _, _, _, rfl, rfl, SqT.of ht, atI_nat (j := 0) rfl, _, rfl, t, _, _, _, rfl, rfl, SqT.of ht, atI_nat (j := 3) rfl, lg, dv, lay, H0, L, _, b.kind, tb, b.body, rfl, h3, O, hb, wb.c, Wt.sm O wb bk, sm2, fun H4 h4 => ?_⟩
      exact k1 _ stp (take_sm sm2 _) _ h4
end

end K30

namespace K30
open PySem PySem.Spec PyProof.Rows L2
/-! ## W20: recovery -/
open K30X
theorem wb_env (L f : Addr) (cd : Value) : WEnvF (envOfC "Device.written_blocks" (defScope s_Device_written_blocks) L f cd) := ⟨⟨rfl, rfl, rfl, rfl, rfl, rfl⟩, rfl, rfl, rfl, rfl⟩
theorem Whole.det {L : Lay} {rd : Rd} {g p s : Nat} {b b' : Blk} (h : Whole L rd g p s b) (h' : Whole L rd g p s b') : b = b' := by
  have e := h.at_
  rw [h'.at_] at e; cases e; rfl
theorem Step.det {L : Lay} {rd : Rd} {ls a b : LS} {s : Nat} (h : Step L rd ls s a) (h' : Step L rd ls s b) : a = b := by
  rcases h with ⟨b1, w1, k1, e1⟩ | ⟨n1, q1, r1, b1, z1, w1, e1⟩
  · rcases h' with ⟨b2, w2, k2, e2⟩ | ⟨n2, q2, r2, b2, z2, w2, e2⟩
    · rw [e1, e2, w1.det w2]
    · exact absurd k1 (n2 _ w1)
  · rcases h' with ⟨b2, w2, k2, e2⟩ | ⟨n2, q2, r2, b2, z2, w2, e2⟩
    · exact absurd k2 (n1 _ w2)
    · rw [z1] at z2; cases z2
      rw [e1, e2, w1.det w2]
theorem Step.no {L : Lay} {rd : Rd} {ls a : LS} {s : Nat} (h : Step L rd ls s a) (n : NoStep L rd ls s) : False := by
  rcases h with ⟨b1, w1, k1, e1⟩ | ⟨n1, q1, r1, b1, z1, w1, e1⟩
  · exact n.1 _ w1 k1
  · exact n.2 _ _ z1 _ w1
theorem slotVal_len {w : Nat} {xs t : List Nat} (h : slotVal w xs = some t) : t.length ≤ w + 1 := by
  unfold slotVal at h
  by_cases c : xs.headD 0 = 1
  · rw [if_pos c] at h
    injection h with h
    rw [← h, List.length_cons, List.length_take]; omega
  · rw [if_neg c] at h; cases h
theorem readNums_sm {L : Lay} {nums : List Nat} {ls : LS} (h : readNums L nums = some ls) (hl : L.lastId ≤ 900) : ls.Sm := by
  rw [readNums_eq] at h
  by_cases c0 : slotBad L.lastId (nums.drop (atN L 0)) = true
  · rw [if_pos c0] at h; cases h
  rw [if_neg c0] at h
  by_cases c1 : slotBad L.lastId (nums.drop (atN L 1)) = true
  · rw [if_pos c1] at h; cases h
  rw [if_neg c1] at h
  by_cases c2 : slotBad L.lastId (nums.drop (atN L 2)) = true
  · rw [if_pos c2] at h; cases h
  rw [if_neg c2] at h
  unfold readTail at h
  split at h
  · cases h
  · injection h with h
    subst h
    refine ⟨rfl, fun t ht => ?_⟩
    rcases tabs_of ht with e | e
    · rw [e]; show (0 :: nums.take L.lastId).length ≤ _; rw [List.length_cons, List.length_take]; omega
    · have e' : some t ∈ [slotVal L.lastId (nums.drop (atN L 0)), slotVal L.lastId (nums.drop (atN L 1)), slotVal L.lastId (nums.drop (atN L 2))] := e
      simp only [List.mem_cons, List.not_mem_nil, or_false] at e'
      rcases e' with e | e | e <;> (have := slotVal_len e.symm; omega)
/-- what the two regions gave so far -/
structure Fnd (L : Lay) (rd : Rd) (i : Nat) (v : V) (rg : Nat) (Hi H : Hp) : Prop where
  q : (v = .non ∧ ∀ j, j < i → ∀ s n, ¬ CkIn L rd j s n) ∨ ∃ s n t p, rg < i ∧ CkIn L rd rg s n ∧ n.length = L.rb * L.fan ∧ v = .ref t ∧ (Hi t = none ∧ Hi p = none ∧ H t = some (.tup [.int (s : Int), .ref p])) ∧ H p = some (.lst (nats n)) ∧ ∀ j, j < i → ∀ s' n', CkIn L rd j s' n' → s' ≤ s
theorem Fnd.same {L : Lay} {rd : Rd} {i : Nat} {v : V} {rg : Nat} {Hi H H' : Hp} (h : Fnd L rd i v rg Hi H) (s : Same H H') : Fnd L rd i v rg Hi H' := by
  rcases h.q with z | ⟨s1, n, t, p, a, b, c, d, e, f, g⟩
  · exact ⟨.inl z⟩
  · exact ⟨.inr ⟨s1, n, t, p, a, b, c, d, ⟨e.1, e.2.1, s _ _ e.2.2⟩, s _ _ f, g⟩⟩
theorem Fnd.fin {L : Lay} {rd : Rd} {v : V} {rg r s0 n : Nat} {h : Nat → LS} {Hi H : Hp} (F : Fnd L rd 2 v rg Hi H) (R : Rec L rd r s0 n h) :
    rg = r ∧ ∃ nums t p, readNums L nums = some (h 0) ∧ nums.length = L.rb * L.fan ∧ v = .ref t ∧ (Hi t = none ∧ Hi p = none ∧ H t = some (.tup [.int (s0 : Int), .ref p])) ∧ H p = some (.lst (nats nums)) := by
  obtain ⟨nums, c0, rn⟩ := R.ck
  rcases F.q with ⟨_, z⟩ | ⟨s1, n1, t, p, a, b, c, d, e, f, g⟩
  · exact absurd c0 (z r R.r2 _ _)
  · have r2 := R.r2
    have h1 := g r r2 _ _ c0
    have er : rg = r := by
      by_cases q : rg = r
      · exact q
      · have e1 : rg = 1 - r := by omega
        have := R.ot s1 n1 (e1 ▸ b)
        omega
    subst er
    obtain ⟨z1, z2⟩ := b.nums_eq c0
    subst z1 z2
    exact ⟨rfl, _, t, p, rn, c, d, e, f⟩
theorem xeOk_nox {X : Cx} : XeOk X.nox := fun _ _ _ _ _ h => h.elim
section
variable {X : Cx}
theorem ps_wb {o : Expr} {ta : TE} {tg : Expr} {body : List Stmt} {g : TG} {tb : TS} {apos pos pos' : Pos} {pl : Sem Bool} (T : Txt X.K X.mg) (F : MD X.K (CD X.K) "written_blocks" "Device.written_blocks" s_Device_written_blocks)
    (hp : PassesOwn (model X.prog X.w) X.A X.env X.xe) (hc : X.calm = true) (hxe : XeOk X) (hr : L2.Room 1 X.A) (ho : PE X o ta) (hg : PG X tg g) (hb : PSs X body tb)
    (ht : eval (.Call (.Attribute o "written_blocks" apos) [] [] pos') X.env = (do
      let ov ← eval o X.env
      standAt apos.atName
      let (f, first) ← holding [ov] (getMethod ov "written_blocks" pl)
      callWith pos' f first (backTo pos' (starEach [] X.env)) (backToKw pos' (keywordEach [] X.env))) := by rfl)
    (hs : ∀ x, foldedSetIterable (.Call (.Attribute o "written_blocks" apos) [] [] pos') X.env x = pure x := by intro _; rfl) :
    PS X (.For tg (.Call (.Attribute o "written_blocks" apos) [] [] pos') body [] pos) (tForW (CD X.K) ta g tb) := by
  obtain ⟨f, fd, FF, hm⟩ := F
  exact ps_forW hp hc hxe hr ho T.cD T.nD_seen hm FF (N := ["self", "address", "block"]) ⟨rfl, rfl, rfl, by decide +kernel, rfl, by decide +kernel, by decide +kernel⟩ rfl (FF.bindsN (fun _ _ _ _ _ _ us hl => match us, hl with | [_], _ => rfl)) T.b_enumerate wb_env hg hb (fun env => rfl) ht hs
end
section
variable {P : Program} {w : World} {K : PySem.W.Frag} {mg : Str → Option Value} {base : Heap}
def sp_recover (K : PySem.W.Frag) : Sp := fun vs H Q _ => ∃ (dv lay : Addr) (H0 : Hp) (L : Lay) (d : Dev) (r s0 n : Nat) (hh : Nat → LS), vs = [.ref dv] ∧ DevO K H0 H dv lay d ∧ LayAt K H0 lay L ∧ L.Ok ∧ (∀ a b, rdl d.seen a = some b → b.Wt L) ∧ Rec L (rdl d.seen) r s0 n hh ∧
  ∀ H' x s, (∀ a b, rdl d.seen a = some b → b.seq ≤ s) → LogO K H0 H' x dv lay L ⟨d, hh n, s, r⟩ → Q (.ref x) H'
theorem sc_recover : FnScope ["device", "found", "region", "number", "checkpoint", "log", "sequence", "_", "block"] ["device"] (defScope s_recover) := ⟨rfl, rfl, rfl, by decide +kernel, rfl, by decide +kernel, by decide +kernel⟩
theorem cal_recover (T : Txt K mg) (F : FD K mg "recover" s_recover) (c_checkpoint_in : C8.Cal P w K mg base 2 "checkpoint_in" (sp_checkpoint_in K) []) (c_Log : C8.Mak P w K mg base 3 "Log" (CG K) (sp_Log___init__ K) []) (c_read_numbers : C8.Cal P w K mg base 1 "read_numbers" (sp_read_numbers K) []) (c_take_next : C8.Cal P w K mg base 3 "take_next" (sp_take_next K) []) (F_wb : MD K (CD K) "written_blocks" "Device.written_blocks" s_Device_written_blocks) : C8.Cal P w K mg base 5 "recover" (sp_recover K) [] := by
  obtain ⟨f, fd, F, hm⟩ := F
  refine ⟨f, fd, _, _, F.ok sc_recover (fun vs H Q E h => ?_) (fun cdv A outer s H vs Q E hr h => ?_), hm, F.kp, F.bindsN (fun _ _ _ _ _ _ us hl => match us, hl with | [_], _ => rfl), .nil⟩
  · obtain ⟨_, _, _, _, _, _, _, _, _, rfl, _⟩ := h
    rfl
  · obtain ⟨dv, lay, H0, L, d, r, s0, n, hh, rfl, hd0, y, O, hw, R, k⟩ := h
    have ob := O.bnd
    refine ⟨_, PSs.nox (pss_cons (ps_set (i := 1) sc_recover.nd rfl (Or.inl rfl) pe_non)
      (pss_cons (ps_set (i := 2) sc_recover.nd rfl (Or.inl rfl) pe_int)
      (pss_cons (ps_for PassesOwn.never rfl (pi_range1 rfl T.b_range (pa_cons pe_int pa_nil)) (pg_name (i := 3) sc_recover.nd rfl (Or.inl rfl)) (pss_cons (ps_set (i := 4) sc_recover.nd rfl (Or.inl rfl) (C8.pe_c c_checkpoint_in hr (by decide) (by rfl) (pa_cons (pv 0) (pa_cons (pv 3) pa_nil))))
      (pss_one (ps_if (PW.pt (pw_and (pt_cmpR op_notN (pv 4) pe_non (nomark _)) (pw_and1 (PW.pt (pw_or (pt_cmpR op_isN (pv 1) pe_non (nomark _)) (pw_or1 (pt_cmpR op_gt (pe_ix ix_tup (pv 4) pe_int (fun _ _ => rfl)) (pe_ix ix_tup (pv 1) pe_int (fun _ _ => rfl)) (nomark _)))))))) (pss_cons (ps_set (i := 1) sc_recover.nd rfl (Or.inl rfl) (pv 4))
      (pss_one (ps_set (i := 2) sc_recover.nd rfl (Or.inl rfl) (pv 3)))) pss_nil))))
      (pss_cons (ps_if (pt_cmpR op_isN (pv 1) pe_non (nomark _)) (pss_one ps_never) pss_nil)
      (pss_cons (ps_set (i := 5) sc_recover.nd rfl (Or.inl rfl) (C8.pe_mk c_Log hr (by decide) (by rfl) (pa_cons (pv 0) pa_nil)))
      (pss_cons (ps_fld (pv 5) (pv 2) rfl)
      (pss_cons (ps_asg (C8.pe_c c_read_numbers hr (by decide) (by rfl) (pa_cons (pe_fld (pv 0) rfl) (pa_cons (pe_ix ix_tup (pv 1) pe_int (fun _ _ => rfl)) pa_nil))) (pg_tup rfl (pgs_cons (pg_fld (pv 5)) (pgs_cons (pg_fld (pv 5)) (pgs_cons (pg_fld (pv 5)) (pgs_cons (pg_fld (pv 5)) (pgs_cons (pg_fld (pv 5)) pgs_nil)))))))
      (pss_cons (ps_set (i := 6) sc_recover.nd rfl (Or.inl rfl) (pe_op op_add (pe_ix ix_tup (pv 1) pe_int (fun _ _ => rfl)) pe_int))
      (pss_cons (ps_while PassesOwn.never (pt_val (C8.pe_c c_take_next hr (by decide) (by rfl) (pa_cons (pv 5) (pa_cons (pv 6) pa_nil)))) (pss_one (ps_set (i := 6) sc_recover.nd rfl (Or.inl rfl) (pe_op op_add (pv 6) pe_int))))
      (pss_cons (ps_wb T F_wb PassesOwn.never rfl xeOk_nox (hr.mono (by decide)) (pv 0) (pg_tup rfl (pgs_cons (pg_name (i := 7) sc_recover.nd rfl (Or.inl rfl)) (pgs_cons (pg_name (i := 8) sc_recover.nd rfl (Or.inl rfl)) pgs_nil))) (pss_one (ps_fld (pv 5) (pe_callB (call_max2 rfl) (by rfl) T.b_max (by decide +kernel) (pa_cons (pe_fld (pv 5) rfl) (pa_cons (pe_ix ix_tup (pv 8) pe_int (fun _ _ => rfl)) pa_nil))) rfl)))
      (pss_one (ps_ret (pv 5))))))))))))), ?_⟩
    refine ⟨_, rfl, by decide, by decide, for_it walk_range (fun i σ H' => ∃ (v1 : V) (rg : Nat) (v3 v4 : Option V), σ = [some (.ref dv), some v1, some (.int (rg : Int)), v3, v4, none, none, none, none] ∧ Same H H' ∧ Fnd L (rdl d.seen) i v1 rg H H')
      ⟨.non, 0, none, none, rfl, sR _, ⟨.inl ⟨rfl, fun j hj => absurd hj (Nat.not_lt_zero j)⟩⟩⟩ (fun _ _ _ _ _ => trivial) ?_ ?_⟩
    · rintro i x σ H2 H3 hlt ⟨v1, rg, v3, v4, rfl, s2, F2⟩ yy
      obtain ⟨rfl, rfl⟩ := yy
      have hi : i < 2 := hlt
      have ei : (fun (j : Nat) => V.int (0 + (j : Int))) i = V.int (i : Int) := by
        show V.int (0 + (i : Int)) = _
        rw [Int.zero_add]
      rw [ei]
      have d3 : DevO K H0 H3 dv lay d := hd0.same s2
      refine ⟨_, rfl, _, rfl, dv, lay, H0, L, d, i, rfl, d3, y, O, hi, hw, fun nc H4 s4 => ?_, fun s1 nn c hn H4 t p s4 htn hpn ht hp => ?_⟩
      · refine ⟨_, rfl, rfl, _, rfl, ?_⟩
        refine dNF rfl ?_
        have F4 := F2.same s4
        refine ⟨v1, rg, _, _, rfl, sT s2 s4, ?_⟩
        rcases F4.q with ⟨e, z⟩ | ⟨s1, n1, t, p, a, b, c, e1, e2, e3, g⟩
        · refine ⟨.inl ⟨e, fun j hj s' n' c' => ?_⟩⟩
          by_cases q : j = i
          · exact nc s' n' (q ▸ c')
          · exact z j (by omega) s' n' c'
        · refine ⟨.inr ⟨s1, n1, t, p, by omega, b, c, e1, e2, e3, fun j hj s' n' c' => ?_⟩⟩
          by_cases q : j = i
          · exact absurd (q ▸ c') (nc s' n')
          · exact g j (by omega) s' n' c'
      · refine ⟨_, rfl, rfl, _, rfl, ?_⟩
        refine dNT (fun z => by cases z) ?_
        have F4 := F2.same s4
        have upd_ : (∀ j, j < i → ∀ s' n', CkIn L (rdl d.seen) j s' n' → s' ≤ s1) → Fnd L (rdl d.seen) (i + 1) (.ref t) i H H4 := fun z => ⟨.inr ⟨s1, nn, t, p, by omega, c, hn, rfl, ⟨sF s2 htn, sF s2 hpn, ht⟩, hp, fun j hj s' n' c' => by
          by_cases q : j = i
          · subst q; exact Nat.le_of_eq ((c'.nums_eq c).1)
          · exact z j (by omega) s' n' c'⟩⟩
        refine ⟨_, rfl, rfl, _, rfl, ?_⟩
        rcases F4.q with ⟨e, z⟩ | ⟨s5, n5, t5, p5, a, b, c5, e1, e2, e3, g⟩
        · subst e
          refine dT rfl ?_
          exact ⟨_, rfl, _, rfl, .ref t, i, _, _, rfl, sT s2 s4, upd_ fun j hj s' n' c' => absurd c' (z j hj s' n')⟩
        · subst e1
          refine dF (fun z => by cases z) ?_
          refine ⟨_, rfl, t, _, _, _, rfl, rfl, SqT.of ht, atI_nat (j := 0) rfl, _, rfl, t5, _, _, _, rfl, rfl, SqT.of e2.2.2, atI_nat (j := 0) rfl, _, _, rfl, rfl, _, rfl, ?_⟩
          by_cases c6 : s5 < s1
          · refine dT (by omega) ?_
            exact ⟨_, rfl, _, rfl, .ref t, i, _, _, rfl, sT s2 s4, upd_ fun j hj s' n' c' => by have := g j hj s' n' c'; omega⟩
          · refine dF (by omega) ?_
            refine ⟨.ref t5, rg, _, _, rfl, sT s2 s4, ⟨.inr ⟨s5, n5, t5, p5, by omega, b, c5, rfl, e2, e3, fun j hj s' n' c' => ?_⟩⟩⟩
            by_cases q : j = i
            · subst q; have := (c'.nums_eq c).1; omega
            · exact g j (by omega) s' n' c'
    · rintro σ H2 ⟨v1, rg, v3, v4, rfl, s2, F2⟩
      obtain ⟨er, nums, t, p, rn, hnl, rfl, ⟨htn, hpn, ht⟩, hp⟩ := Fnd.fin F2 R
      subst er
      have d2 : DevO K (ext H0 H H2) H2 dv lay d := hd0.ext s2
      have f0 : Same H0 (ext H0 H H2) := ext_same hd0.frame
      have htF : ext H0 H H2 t = some (.tup [.int (s0 : Int), .ref p]) := (ext_new htn).trans ht
      have hpF : ext H0 H H2 p = some (.lst (nats nums)) := (ext_new hpn).trans hp
      refine ⟨_, rfl, rfl, _, rfl, ?_⟩
      refine dF (fun z => by cases z) ?_
      refine ⟨_, rfl, fun x dx hx hdx hne => ?_⟩
      refine ⟨x, dx, dv, lay, _, H2, L, d, rfl, upd_same, d2, sM (sN (sR H2) hdx) hx, hx, y.same f0, O, fun H3 h3 => ⟨rfl, ?_⟩⟩
      obtain ⟨H1, q, w3, y3⟩ := h3.opn
      refine ⟨_, rfl, _, rfl, x, _, q.dx, _, rfl, w3.h0, T.cG, T.nG_region, of_decide_eq_true rfl, ?_⟩
      have w4 := w3.put q.pr q.sl q.qu q.vsl (log0 L) 0 rg w3.l.p w3.l.sl w3.l.rs w3.l.qu
      obtain ⟨p4, hp4⟩ := w4.d
      have fr4 := (w4.cls y3).frame
      refine ⟨_, rfl, dv, _, p4.dx, _, _, rfl, hp4.h0, T.cD, T.nD_layout, rfl, _, rfl, t, _, _, _, rfl, rfl, SqT.of (fr4 _ _ htF), atI_nat (j := 1) rfl, lay, p, L, nums, rfl, y3.same fr4, O, fr4 _ _ hpF, hnl, fun e => (by rw [rn] at e; cases e), fun ls e H5 T0 p1 p2 p3 vsl R5 => ?_⟩
      rw [rn] at e
      cases e
      obtain ⟨G5, w5, g1, g2, g3, gr⟩ : ∃ G5, LogW K (ext H0 H H2) G5 H5 x dv lay ⟨d, log0 L, 0, rg⟩ q ∧ G5 p1 = some (.lst (nats (hh 0).present)) ∧ G5 p2 = some (.lst vsl) ∧ G5 p3 = some (.lst (nats (hh 0).queue)) ∧ All2 (SlR G5) (hh 0).slots vsl :=
        ⟨_, w4.new R5.s, (ext_new R5.n1).trans R5.h1, (ext_new R5.n2).trans R5.h2, (ext_new R5.n3).trans R5.h3, R5.r.mono fun o v z => by
          cases o with
          | none => exact z.1
          | some t =>
            obtain ⟨a, e, z1⟩ := z.1
            exact ⟨a, e, (ext_new (z.2 a e)).trans z1⟩⟩
      have n2 : p2 ≠ x := fun e => by rw [e, w5.l.g0] at g2; cases g2
      have n3 : p3 ≠ x := fun e => by rw [e, w5.l.g0] at g3; cases g3
      refine ⟨T0, _, rfl, SqT.of R5.t, rfl, ?_⟩
      refine ⟨_, _, rfl, _, rfl, x, _, q.dx, _, rfl, w5.h0, T.cG, T.nG_present, of_decide_eq_true rfl, ?_⟩
      have w6 := w5.put p1 q.sl q.qu q.vsl { log0 L with present := (hh 0).present } 0 rg g1 w5.l.sl w5.l.rs w5.l.qu
      refine ⟨_, _, rfl, _, rfl, x, _, q.dx, _, rfl, w6.h0, T.cG, T.nG_slots, of_decide_eq_true rfl, ?_⟩
      have w7 := w6.put p1 p2 q.qu vsl { log0 L with present := (hh 0).present, slots := (hh 0).slots } 0 rg w6.l.p (by rw [upd_ne n2]; exact g2) (gr.mono fun o v z => by
        cases o with
        | none => exact z
        | some t => obtain ⟨a, e, z1⟩ := z; exact ⟨a, e, by rw [upd_ne (fun e => by rw [e, w5.l.g0] at z1; cases z1)]; exact z1⟩) w6.l.qu
      refine ⟨_, _, rfl, _, rfl, x, _, q.dx, _, rfl, w7.h0, T.cG, T.nG_head, of_decide_eq_true rfl, ?_⟩
      have w8 := w7.put p1 p2 q.qu vsl { log0 L with present := (hh 0).present, slots := (hh 0).slots, head := (hh 0).head } 0 rg w7.l.p w7.l.sl w7.l.rs w7.l.qu
      refine ⟨_, _, rfl, _, rfl, x, _, q.dx, _, rfl, w8.h0, T.cG, T.nG_place, of_decide_eq_true rfl, ?_⟩
      have w9 := w8.put p1 p2 q.qu vsl { log0 L with present := (hh 0).present, slots := (hh 0).slots, head := (hh 0).head, place := (hh 0).place } 0 rg w8.l.p w8.l.sl w8.l.rs w8.l.qu
      refine ⟨_, _, rfl, _, rfl, x, _, q.dx, _, rfl, w9.h0, T.cG, T.nG_queue, of_decide_eq_true rfl, ?_⟩
      have w10 := w9.put p1 p2 p3 vsl (hh 0) 0 rg w9.l.p w9.l.sl w9.l.rs (by rw [upd_ne n3, upd_ne n3, upd_ne n3, upd_ne n3]; exact g3)
      have fr10 := (w10.cls y3).frame
      refine ⟨rfl, _, rfl, t, _, _, _, rfl, rfl, SqT.of (fr10 _ _ htF), atI_nat (j := 0) rfl, _, _, rfl, rfl, ?_⟩
      refine ⟨fun m σ H' => ∃ i, m + i = n ∧ σ = [some (.ref dv), some (.ref t), some (.int (rg : Int)), v3, v4, some (.ref x), some (.int ((s0 + i + 1 : Nat) : Int)), none, none] ∧ LogO K (ext H0 H H2) H' x dv lay L ⟨d, hh i, 0, rg⟩ ∧ (hh i).Sm,
        ⟨n, 0, rfl, rfl, w10.cls y3, readNums_sm rn (by omega)⟩, ?_⟩
      rintro m σ H6 ⟨i, hmn, rfl, h6, sm6⟩
      refine ⟨_, rfl, _, rfl, x, dv, lay, _, L, ⟨d, hh i, 0, rg⟩, s0 + i + 1, rfl, h6, O, sm6, hw, fun ns H7 h7 => ⟨_, rfl, ?_⟩, fun ls' stp sm' H7 h7 => ⟨_, rfl, ?_⟩⟩
      · have ein : i = n := by
          by_cases c : i < n
          · exact ((R.st i c).no ns).elim
          · omega
        subst ein
        refine iteF ?_
        obtain ⟨G7, q7, w7, y7⟩ := h7.opn
        obtain ⟨p7, hp7⟩ := w7.d
        have cell : ∀ (j : Nat) v, p7.vse[j]? = some v → ∃ o, d.seen[j]? = some o ∧ OBR H7 o v := fun j v e => by
          have hj : j < p7.vse.length := (List.getElem?_eq_some_iff.mp e).1
          have hj' : j < d.seen.length := by rw [show d.seen.length = p7.vse.length from hp7.r2.1]; exact hj
          exact ⟨_, List.getElem?_eq_getElem hj', hp7.r2.2 j _ _ (List.getElem?_eq_getElem hj') e⟩
        have nx0 : x ≠ p7.se := fun e => by have := w7.h0; rw [e, hp7.h2] at this; cases this
        refine ⟨_, rfl, dv, p7.dx, p7.se, _, p7.vse, fun j σ H' => ∃ (v7 v8 : Option V) (m : Nat) (G : Hp), σ = [some (.ref dv), some (.ref t), some (.int (rg : Int)), v3, v4, some (.ref x), some (.int ((s0 + i + 1 : Nat) : Int)), v7, v8] ∧ LogW K (ext H0 H H2) G H' x dv lay ⟨d, hh i, m, rg⟩ q7 ∧ H' p7.se = some (.lst p7.vse) ∧ TK H7 H' ∧ ∀ a b, a < j → rdl d.seen a = some b → b.seq ≤ m,
          rfl, hp7.h0, rfl, rfl, fun v hv => ?_, ⟨none, none, 0, G7, rfl, w7, hp7.h2, TK.refl H7, fun a b ha => absurd ha (Nat.not_lt_zero a)⟩, ?_, ?_, ?_⟩
        · obtain ⟨j, hj, e⟩ := List.mem_iff_getElem.mp hv
          obtain ⟨o, _, r⟩ := cell j v (by rw [List.getElem?_eq_getElem hj, e])
          cases o with
          | none => exact .inl r
          | some b => obtain ⟨a, e, _⟩ := r; exact .inr ⟨a, e⟩
        · rintro j σ H8 ⟨v7, v8, m, G, e, w8, e2, tk, bd⟩
          exact e2
        · rintro j σ H8 hj ⟨v7, v8, m, G, rfl, w8, e2, tk, bd⟩ rest
          refine ⟨_, rfl, ?_⟩
          refine k H8 x m (fun a b e => ?_) (LogO.shrink (w8.cls y7) f0 y)
          by_cases c : a < j
          · exact bd a b c e
          · have ha : a < d.seen.length := by
              by_cases c2 : a < d.seen.length
              · exact c2
              · unfold rdl at e
                rw [List.getD, List.getElem?_eq_none (by omega)] at e; cases e
            have ha' : a < p7.vse.length := by rw [← show d.seen.length = p7.vse.length from hp7.r2.1]; exact ha
            have en := rest a _ (by omega) (List.getElem?_eq_getElem ha')
            obtain ⟨o, eo, ro⟩ := cell a _ (List.getElem?_eq_getElem ha')
            rw [en] at ro
            unfold rdl at e
            rw [List.getD, eo] at e
            have e' : o = some b := e
            subst e'
            obtain ⟨a', z, _⟩ := ro
            cases z
        · rintro i' j σ H8 a ⟨v7, v8, m, G, rfl, w8, e2, tk, bd⟩ hij hxj skip T9 hT9
          obtain ⟨o, eo, ro⟩ := cell j _ hxj
          cases o with
          | none => cases ro
          | some b =>
            obtain ⟨a', ea, tb, ht8, _⟩ := ro
            cases ea
            have ht8' := tk _ _ ht8
            have s9 := sN (o := .tup [.int (j : Nat), .ref a]) (sR H8) hT9
            have w9 := w8.new s9
            refine ⟨T9, _, rfl, SqT.of upd_same, rfl, _, _, rfl, _, _, rfl, rfl, ?_⟩
            refine ⟨_, rfl, x, _, q7.dx, _, _, rfl, w9.h0, T.cG, T.nG_last_sequence, rfl, _, rfl, a, _, _, _, rfl, rfl, SqT.of (s9 _ _ ht8'), atI_nat (j := 1) rfl, _, _, rfl, _, rfl, x, _, q7.dx, _, rfl, w9.h0, T.cG, T.nG_last_sequence, of_decide_eq_true rfl, ?_⟩
            have em : (if (b.seq : Int) > (m : Int) then (b.seq : Int) else (m : Int)) = ((if m < b.seq then b.seq else m : Nat) : Int) := by
              by_cases c : m < b.seq
              · rw [if_pos (by omega), if_pos c]
              · rw [if_neg (by omega), if_neg c]
            have e12 : V.int (if (b.seq : Int) > (({ dev := d, ls := hh i, seq := m, reg := rg } : St).seq : Int) then (b.seq : Int) else (({ dev := d, ls := hh i, seq := m, reg := rg } : St).seq : Int)) = V.int ((if m < b.seq then b.seq else m : Nat) : Int) := congrArg V.int em
            rw [e12]
            have w10 := w9.put q7.pr q7.sl q7.qu q7.vsl (hh i) (if m < b.seq then b.seq else m) rg w9.l.p w9.l.sl w9.l.rs w9.l.qu
            refine ⟨_, _, (if m < b.seq then b.seq else m), _, rfl, w10, ?_, ?_, ?_⟩
            · exact (upd_ne (Ne.symm nx0)).trans (s9 _ _ e2)
            · exact fun a xs z => TK.upd (fun xs e => by rw [w9.h0] at e; cases e) _ _ (s9 _ _ (tk _ _ z))
            · intro a' b' ha' eb
              by_cases c : a' < i'
              · have := bd a' b' c eb
                by_cases c2 : m < b.seq
                · rw [if_pos c2]; omega
                · rw [if_neg c2]; exact this
              · by_cases c2 : a' = j
                · subst c2
                  unfold rdl at eb
                  rw [List.getD, eo] at eb
                  have eb' : some b = some b' := eb
                  injection eb' with eb'
                  subst eb'
                  by_cases c2 : m < b.seq
                  · rw [if_pos c2]; exact Nat.le_refl _
                  · rw [if_neg c2]; omega
                · have sk := skip a' (by omega) (by omega)
                  obtain ⟨o', eo', ro'⟩ := cell a' _ sk
                  unfold rdl at eb
                  rw [List.getD, eo'] at eb
                  have eb' : o' = some b' := eb
                  subst eb'
                  obtain ⟨_, z, _⟩ := ro'
                  cases z
      · have hin : i < n := by
          by_cases c : i < n
          · exact c
          · have : i = n := by omega
            subst this
            exact (stp.no R.no).elim
        have el := stp.det (R.st i hin)
        rw [el] at h7 sm'
        refine iteT ?_
        refine ⟨fun σ' H' => σ' = [some (.ref dv), some (.ref t), some (.int (rg : Int)), v3, v4, some (.ref x), some (.int ((s0 + (i + 1) + 1 : Nat) : Int)), none, none] ∧ LogO K (ext H0 H H2) H' x dv lay L ⟨d, hh (i + 1), 0, rg⟩, fun σ' H' z => ⟨m - 1, by omega, i + 1, by omega, z.1, z.2, sm'⟩, ?_⟩
        refine ⟨_, rfl, _, _, rfl, rfl, ?_, h7⟩
        show ([some (V.ref dv), some (.ref t), some (.int (rg : Int)), v3, v4, some (.ref x), some (.int (((s0 + i + 1 : Nat) : Int) + 1)), none, none] : List (Option V)) = _
        rw [show ((s0 + i + 1 : Nat) : Int) + 1 = ((s0 + (i + 1) + 1 : Nat) : Int) by omega]
end

end K30

namespace K30
open PySem PySem.Spec PyProof.Rows L2
/-! ## W21: mounting -/
open K30X
section
variable {P : Program} {w : World} {K : PySem.W.Frag} {mg : Str → Option Value} {base : Heap}
def sp_mount_log (K : PySem.W.Frag) : Sp := fun vs H Q _ => ∃ (dv lay : Addr) (H0 : Hp) (L : Lay) (d : Dev) (r s0 n : Nat) (hh : Nat → LS), vs = [.ref dv] ∧ DevO K H0 H dv lay d ∧ LayAt K H0 lay L ∧ L.Ok ∧ (∀ a b, rdl d.seen a = some b → b.Wt L) ∧ Rec L (rdl d.seen) r s0 n hh ∧
  d.seen.length = L.db ∧ d.sure.length = L.db ∧ (∀ x ∈ d.waiting, x.1 < L.db) ∧
  ∀ H' x s fr, (∀ a b, rdl d.seen a = some b → b.seq ≤ s) → NewFree L (hh n) fr → LogO K H0 H' x dv lay L (checkpoint L fr ⟨d, hh n, s, r⟩) → Q (.ref x) H'
theorem sc_mount_log : FnScope ["device", "log"] ["device"] (defScope s_mount_log) := ⟨rfl, rfl, rfl, by decide +kernel, rfl, by decide +kernel, by decide +kernel⟩
theorem cal_mount_log (T : Txt K mg) (F : FD K mg "mount_log" s_mount_log) (c_recover : C8.Cal P w K mg base 5 "recover" (sp_recover K) []) (c_write_checkpoint : C8.Cal P w K mg base 3 "write_checkpoint" (sp_write_checkpoint K) []) : C8.Cal P w K mg base 6 "mount_log" (sp_mount_log K) [] := by
  obtain ⟨f, fd, F, hm⟩ := F
  refine ⟨f, fd, _, _, F.ok sc_mount_log (fun vs H Q E h => ?_) (fun cdv A outer s H vs Q E hr h => ?_), hm, F.kp, F.bindsN (fun _ _ _ _ _ _ us hl => match us, hl with | [_], _ => rfl), .nil⟩
  · obtain ⟨_, _, _, _, _, _, _, _, _, rfl, _⟩ := h
    rfl
  · obtain ⟨dv, lay, H0, L, d, r, s0, n, hh, rfl, hd, y, O, hw, R, h1, h2, h3, k⟩ := h
    refine ⟨_, PSs.nox (pss_cons (ps_set (i := 1) sc_mount_log.nd rfl (Or.inl rfl) (C8.pe_c c_recover hr (by decide) (by rfl) (pa_cons (pv 0) pa_nil)))
      (pss_cons (ps_expr (C8.pe_c c_write_checkpoint hr (by decide) (by rfl) (pa_cons (pv 1) pa_nil)))
      (pss_one (ps_ret (pv 1))))), ?_⟩
    refine ⟨_, rfl, dv, lay, H0, L, d, r, s0, n, hh, rfl, hd, y, O, hw, R, fun H2 x s bd h => ?_⟩
    refine ⟨_, rfl, x, dv, lay, H0, L, _, rfl, h, O, ⟨h1, h2, h3, ⟨_, R.ok⟩, R.r2⟩, fun H5 fr nf h5 => ?_⟩
    exact ⟨_, rfl, k _ x s fr bd nf h5⟩
end

end K30

namespace K30
open PySem PySem.Spec PyProof.Rows L2
/-! ## W22: what a power failure leaves -/
open K30X
/-- a def with keyword-only defaults -/
def FDK (K : PySem.W.Frag) (mg : Str → Option Value) (x : Str) (st : Stmt) (kws : List (Str × V)) : Prop := ∃ (f : Addr) (fd : FuncData), FunD K x x (defArgs st) (defBody st) (defScope st) [] kws f fd ∧ mg x = some (.ref f)
def MDK (K : PySem.W.Frag) (C : Addr) (m qual : Str) (st : Stmt) (kws : List (Str × V)) : Prop := ∃ (f : Addr) (fd : FuncData), FunD K m qual (defArgs st) (defBody st) (defScope st) [] kws f fd ∧ Meth K C m f
theorem leftFrom_snoc {kept torn : List Nat} : ∀ (ws : List (Nat × Blk)) (n : Nat) (l : List (Option Blk)) (x : Nat × Blk), leftFrom kept torn n l (ws ++ [x]) =
    if n + ws.length ∈ torn then (leftFrom kept torn n l ws).set x.1 none else if n + ws.length ∈ kept then (leftFrom kept torn n l ws).set x.1 (some x.2) else leftFrom kept torn n l ws
  | [], n, l, x => rfl
  | w :: ws, n, l, x => by
    show leftFrom kept torn (n + 1) _ (ws ++ [x]) = _
    rw [leftFrom_snoc ws (n + 1), show n + 1 + ws.length = n + (w :: ws).length by rw [List.length_cons]; omega]
    rfl
section
variable {P : Program} {w : World} {K : PySem.W.Frag} {mg : Str → Option Value} {base : Heap}
def sp_Device_left (K : PySem.W.Frag) : Sp := fun vs H Q _ => ∃ (dv lay kp tn : Addr) (H0 : Hp) (L : Lay) (d : Dev) (kept torn : List Nat), vs = [.ref dv, .ref kp, .ref tn] ∧ DevO K H0 H dv lay d ∧ LayAt K H0 lay L ∧ L.Ok ∧ H kp = some (.lst (nats kept)) ∧ H tn = some (.lst (nats torn)) ∧ d.sure.length = L.db ∧ (∀ x ∈ d.waiting, x.1 < L.db) ∧
  ∀ H' x, DevO K H H' x lay (Dev.new (d.left kept torn)) → Q (.ref x) H'
theorem sc_Device_left : FnScope ["self", "kept", "torn", "blocks", "number", "address", "block"] ["self", "kept", "torn"] (defScope s_Device_left) := ⟨rfl, rfl, rfl, by decide +kernel, rfl, by decide +kernel, by decide +kernel⟩
theorem metk_Device_left {v_torn : V} (T : Txt K mg) (F : MDK K (CD K) "left" "Device.left" s_Device_left [("torn", v_torn)]) (c_D2 : C8.Mak P w K mg base 1 "Device" (CD K) (sp_Device___init__ K) []) : MetK P w K mg base 3 (CD K) "left" (sp_Device_left K) 2 ["torn"] := by
  obtain ⟨f, fd, F, hm⟩ := F
  obtain ⟨mv, hb⟩ := F.kbinds0 (ps := ["self", "kept", "torn"]) 2 ["torn"] [] (fun vs mz zs => vs ++ zs) (by simp) (fun q hq => by cases hq) (fun r _ rz => Vals.append r rz) (fun D doc pm an cdv ct us mv ws h1 h2 h3 => match us, mv, ws, h1, h2, h3 with | [_, _], [], [_], _, _, _ => rfl)
  refine ⟨f, fd, _, T.cD, hm, F.ok sc_Device_left (fun vs H Q E h => ?_) (fun cdv A outer s H vs Q E hr h => ?_), hb⟩
  · obtain ⟨_, _, _, _, _, _, _, _, _, rfl, _⟩ := h
    rfl
  · obtain ⟨dv, lay, kp, tn, H0, L, d, kept, torn, rfl, ⟨p, hd⟩, y, O, hkp, htn, hsu, hw, k⟩ := h
    refine ⟨_, PSs.nox (pss_cons (ps_set (i := 3) sc_Device_left.nd rfl (Or.inl rfl) (pe_callTy call_list_of (by rfl) T.b_list (by decide +kernel) (pa_cons (pe_fld (pv 0) rfl) pa_nil)))
      (pss_cons (ps_for PassesOwn.never rfl (pi_enum (by rfl) T.b_enumerate (pa_cons (pe_fld (pv 0) rfl) pa_nil)) (pg_tup rfl (pgs_cons (pg_name (i := 4) sc_Device_left.nd rfl (Or.inl rfl)) (pgs_cons (pg_tup rfl (pgs_cons (pg_name (i := 5) sc_Device_left.nd rfl (Or.inl rfl)) (pgs_cons (pg_name (i := 6) sc_Device_left.nd rfl (Or.inl rfl)) pgs_nil))) pgs_nil))) (pss_one (ps_if (pt_cmpR op_in_seq (pv 4) (pv 2) (by rfl)) (pss_one (ps_asg pe_non (pg_sub (pv 3) (pv 5) set_list))) (pss_one (ps_if (pt_cmpR op_in_seq (pv 4) (pv 1) (by rfl)) (pss_one (ps_asg (pv 6) (pg_sub (pv 3) (pv 5) set_list))) pss_nil)))))
      (pss_one (ps_ret (C8.pe_mk c_D2 hr (by decide) (by rfl) (pa_cons (pe_fld (pv 0) rfl) (pa_cons (pv 3) pa_nil))))))), ?_⟩
    have hd' : DevO K H0 H dv lay d := ⟨p, hd⟩
    refine ⟨_, rfl, dv, _, p.dx, _, _, rfl, hd.h0, T.cD, T.nD_sure, rfl, p.su, _, rfl, .inl (SqL.of hd.h1), fun bl hbl => ?_⟩
    have s1 := sN (o := .lst p.vsu) (sR H) hbl
    refine ⟨_, rfl, dv, _, p.dx, _, _, rfl, s1 _ _ hd.h0, T.cD, T.nD_waiting, rfl, p.wa, _, rfl, SqL.of (s1 _ _ hd.h3), for_it walk_enum (fun i σ H' => ∃ (v4 v5 v6 : Option V) (cells : List V), σ = [some (.ref dv), some (.ref kp), some (.ref tn), some (.ref bl), v4, v5, v6] ∧ Same H H' ∧ H' bl = some (.lst cells) ∧ All2 (OBR H') (leftFrom kept torn 0 d.sure (d.waiting.take i)) cells)
      ⟨none, none, none, _, rfl, s1, upd_same, hd.r1.mono fun _ _ z => z.tk (TK.of s1)⟩ (fun i σ H' _ ⟨_, _, _, _, _, s', _, _⟩ => SqL.of (s' _ _ hd.h3)) ?_ ?_⟩
    · rintro i x σ H4 H5 hlt ⟨v4, v5, v6, cells, rfl, s4, hb4, r4⟩ ⟨T0, a, b', rfl, hT, rfl, ea, eb⟩
      cases ea
      have hil : i < d.waiting.length := by rw [hd.r3.1]; exact hlt
      have epi : d.waiting[i]? = some d.waiting[i] := List.getElem?_eq_getElem hil
      obtain ⟨tw, tb, rfl, htw, hbk⟩ := hd.r3.2 i _ _ epi eb
      have s5 := sN (o := .tup [.int (i : Nat), .ref tw]) s4 hT
      have s45 := sN (o := .tup [.int (i : Nat), .ref tw]) (sR H4) hT
      refine ⟨T0, _, rfl, SqT.of upd_same, rfl, _, _, rfl, ?_⟩
      refine ⟨_, _, rfl, tw, _, rfl, SqT.of (s5 _ _ htw), rfl, _, _, rfl, _, _, rfl, rfl, rfl, ?_⟩
      have etk : d.waiting.take (i + 1) = d.waiting.take i ++ [d.waiting[i]] := by rw [List.take_succ, epi]; rfl
      have elen : 0 + (d.waiting.take i).length = i := by rw [List.length_take]; omega
      have esn := leftFrom_snoc (kept := kept) (torn := torn) (d.waiting.take i) 0 d.sure d.waiting[i]
      rw [elen, ← etk] at esn
      have r5 : All2 (OBR (upd H4 T0 (.tup [.int (i : Nat), .ref tw]))) (leftFrom kept torn 0 d.sure (d.waiting.take i)) cells := r4.mono fun _ _ z => z.tk (TK.of s45)
      have hb5 := s45 _ _ hb4
      have hwl : d.waiting[i].1 < cells.length := by rw [← r4.1, leftFrom_len, hsu]; exact hw _ (List.getElem_mem hil)
      refine ⟨_, rfl, _, rfl, tn, _, rfl, .inl (SqL.of (s5 _ _ htn)), rfl, flat_nats, _, rfl, ?_⟩
      have evt : (if false = true then !inV (.int ((i : Nat) : Int)) (nats torn) else inV (.int ((i : Nat) : Int)) (nats torn)) = decide (i ∈ torn) := by rw [if_neg Bool.false_ne_true, inV_nats]
      have evk : (if false = true then !inV (.int ((i : Nat) : Int)) (nats kept) else inV (.int ((i : Nat) : Int)) (nats kept)) = decide (i ∈ kept) := by rw [if_neg Bool.false_ne_true, inV_nats]
      by_cases c1 : i ∈ torn
      · rw [evt]
        refine dT c1 ?_
        refine ⟨_, rfl, _, rfl, bl, _, _, d.waiting[i].1, rfl, rfl, hb5, ixN_nat rfl hwl, ?_⟩
        refine ⟨_, _, _, _, rfl, sM s5 hbl, upd_same, ?_⟩
        rw [esn, if_pos c1]
        exact All2.set (r5.mono fun _ _ z => z.tk (TK.upd fun xs e => by rw [hb5] at e; cases e)) rfl
      · rw [evt]
        refine dF c1 ?_
        refine ⟨_, rfl, _, rfl, kp, _, rfl, .inl (SqL.of (s5 _ _ hkp)), rfl, flat_nats, _, rfl, ?_⟩
        by_cases c2 : i ∈ kept
        · rw [evk]
          refine dT c2 ?_
          refine ⟨_, rfl, _, rfl, _, rfl, bl, _, _, d.waiting[i].1, rfl, rfl, hb5, ixN_nat rfl hwl, ?_⟩
          refine ⟨_, _, _, _, rfl, sM s5 hbl, upd_same, ?_⟩
          rw [esn, if_neg c1, if_pos c2]
          exact All2.set (r5.mono fun _ _ z => z.tk (TK.upd fun xs e => by rw [hb5] at e; cases e)) ⟨tb, rfl, (hbk.tk (TK.of s5)).tk (TK.upd fun xs e => by rw [hb5] at e; cases e)⟩
        · rw [evk]
          refine dF c2 ?_
          refine ⟨_, _, _, _, rfl, s5, hb5, ?_⟩
          rw [esn, if_neg c1, if_neg c2]
          exact r5
    · rintro σ H4 ⟨v4, v5, v6, cells, rfl, s4, hb4, r4⟩
      have etk : d.waiting.take p.vwa.length = d.waiting := by rw [← show d.waiting.length = p.vwa.length from hd.r3.1, List.take_length]
      rw [etk] at r4
      obtain ⟨dl, hl⟩ := y
      refine ⟨_, rfl, dv, _, p.dx, _, _, rfl, s4 _ _ hd.h0, T.cD, T.nD_layout, rfl, _, rfl, fun x dx hx hdx hne => ?_⟩
      have s6 : Same H4 (upd (upd H4 dx (.own x)) x (.ins (CD K) dx [])) := sM (sN (sR H4) hdx) hx
      refine ⟨x, dx, lay, .ref bl, L, leftFrom kept torn 0 d.sure d.waiting, rfl, upd_same, ⟨dl, s6 _ _ (s4 _ _ (hd.s _ _ hl))⟩, O, by rw [leftFrom_len]; exact hsu, .inr ⟨bl, _, rfl, s6 _ _ hb4, r4.mono fun _ _ z => z.tk (TK.of s6)⟩, fun H' su se wa vsu vse D => ⟨rfl, ?_⟩⟩
      exact k _ x (D.dev (sT s4 s6) (sF s4 hx))
end

end K30

namespace K30
open PySem PySem.Spec PyProof.Rows L2
/-! ## W23: live counts -/
open K30X
section
variable {P : Program} {w : World} {K : PySem.W.Frag} {mg : Str → Option Value} {base : Heap}
def sp_live_counts (K : PySem.W.Frag) : Sp := fun vs H Q _ => ∃ (lg dv lay : Addr) (H0 : Hp) (L : Lay) (st : St), vs = [.ref lg] ∧ LogO K H0 H lg dv lay L st ∧ L.Ok ∧ (∃ rd, LOK L rd st.ls) ∧
  ∀ H' p cs, Same H H' → H p = Option.none → H' p = some (.lst (nats cs)) → cs.length = L.segs → (∀ g, cs.getD g 0 ≤ 4000 ∧ (1 ≤ cs.getD g 0 → ∃ a, Live st.ls a ∧ segOf L a = some g)) → Q (.ref p) H'
theorem sc_live_counts : FnScope ["log", "counts", "address", "segment"] ["log"] (defScope s_live_counts) := ⟨rfl, rfl, rfl, by decide +kernel, rfl, by decide +kernel, by decide +kernel⟩
theorem cal_live_counts (T : Txt K mg) (F : FD K mg "live_counts" s_live_counts) (c_live_addresses : C8.Cal P w K mg base 1 "live_addresses" (sp_live_addresses K) []) (c_segment_of : C8.Cal P w K mg base 1 "segment_of" (sp_segment_of K) []) : C8.Cal P w K mg base 2 "live_counts" (sp_live_counts K) [] := by
  obtain ⟨f, fd, F, hm⟩ := F
  refine ⟨f, fd, _, _, F.ok sc_live_counts (fun vs H Q E h => ?_) (fun cdv A outer s H vs Q E hr h => ?_), hm, F.kp, F.bindsN (fun _ _ _ _ _ _ us hl => match us, hl with | [_], _ => rfl), .nil⟩
  · obtain ⟨_, _, _, _, _, _, rfl, _⟩ := h
    rfl
  · obtain ⟨lg, dv, lay, H0, L, st, rfl, h, O, ⟨rd, ok⟩, k⟩ := h
    obtain ⟨H1, q, w, y⟩ := h.opn
    obtain ⟨dl, hl⟩ := w.hl y
    have ob := O.bnd
    have s16 := O.s16
    have sm := ok.sm O
    refine ⟨_, PSs.nox (pss_cons (ps_set (i := 1) sc_live_counts.nd rfl (Or.inl rfl) (pe_op op_rep (pe_lst (pa_cons pe_int pa_nil)) (pe_fld (pe_fld (pv 0) rfl) rfl)))
      (pss_cons (ps_for PassesOwn.never rfl (pi_list (C8.pe_c c_live_addresses hr (by decide) (by rfl) (pa_cons (pv 0) pa_nil))) (pg_name (i := 2) sc_live_counts.nd rfl (Or.inl rfl)) (pss_cons (ps_set (i := 3) sc_live_counts.nd rfl (Or.inl rfl) (C8.pe_c c_segment_of hr (by decide) (by rfl) (pa_cons (pe_fld (pv 0) rfl) (pa_cons (pv 2) pa_nil))))
      (pss_one (ps_if (pt_cmpR op_notN (pv 3) pe_non (nomark _)) (pss_one (ps_asg (pe_op op_add (pe_ix ix_list (pv 1) (pv 3) (fun _ _ => rfl)) pe_int) (pg_sub (pv 1) (pv 3) set_list))) pss_nil))))
      (pss_one (ps_ret (pv 1))))), ?_⟩
    refine ⟨by show 1 ≤ sizeLine; decide, fun p0 hp0 => ?_⟩
    have s0 := sN (o := .lst [.int 0]) (sR H) hp0
    refine ⟨_, rfl, lg, _, q.dx, _, _, rfl, s0 _ _ w.h0, T.cG, T.nG_layout, rfl, lay, _, dl, _, _, rfl, s0 _ _ hl, T.cL, T.nL_segments, rfl, ?_⟩
    refine ⟨p0, _, _, rfl, rfl, upd_same, by omega, by omega, ?_, fun pc hpc => ?_⟩
    · rw [show ([V.int 0] : List V).length = 1 from rfl]; exact sz_ok (by omega)
    have er : (List.replicate ((L.segs : Int)).toNat [V.int 0]).flatten = nats (List.replicate L.segs 0) := by rw [show ((L.segs : Int)).toNat = L.segs by omega, nats_rep]
    rw [er]
    have s1 := sN (o := .lst (nats (List.replicate L.segs 0))) s0 hpc
    refine ⟨_, rfl, lg, dv, lay, _, L, st, rfl, h.ext s1, sm.s3, sm.tl, fun H2 p2 ys s2 hp2 hy2 mem nd len => ?_⟩
    have s12 := sT s1 s2
    have hpc2 : H2 pc = some (.lst (nats (List.replicate L.segs 0))) := s2 _ _ upd_same
    have n2 : p2 ≠ pc := fun e => by rw [e, upd_same] at hp2; cases hp2
    refine ⟨p2, rfl, ⟨_, SqL.of hy2⟩, for_it walk_list (fun i σ H' => ∃ (v2 v3 : Option V) (cs : List Nat), σ = [some (.ref lg), some (.ref pc), v2, v3] ∧ Same H H' ∧ H' pc = some (.lst (nats cs)) ∧ H' p2 = some (.lst (nats ys)) ∧ cs.length = L.segs ∧ ∀ g, cs.getD g 0 ≤ i ∧ (1 ≤ cs.getD g 0 → ∃ a, Live st.ls a ∧ segOf L a = some g))
      ⟨none, none, _, rfl, s12, hpc2, hy2, List.length_replicate, fun g => by
        have z : (List.replicate L.segs 0).getD g 0 = 0 := by
          by_cases c : g < L.segs
          · rw [getD_lt (by rw [List.length_replicate]; exact c), List.getElem_replicate]
          · rw [getD_ge (by rw [List.length_replicate]; omega)]
        exact ⟨by omega, fun hg => by omega⟩⟩ (fun i σ H' _ ⟨_, _, _, _, _, _, e, _⟩ => SqL.of e) ?_ ?_⟩
    · rintro i x σ H3 H4 hlt ⟨v2, v3, cs, rfl, s3, hc3, hy3, cl, cc⟩ ⟨rfl, hx⟩
      obtain ⟨n, en, rfl⟩ := nats_get hx
      have hn : Live st.ls n := (mem n).mp (List.mem_of_getElem? en)
      obtain ⟨g, pp, ea, hg, _, hpp, _, _⟩ := ok.lv n hn
      have esg : segOf L n = some g := by rw [ea]; exact segOf_ad hg hpp
      refine ⟨_, rfl, lg, _, q.dx, _, _, rfl, s3 _ _ w.h0, T.cG, T.nG_layout, rfl, _, rfl, lay, n, L, rfl, ⟨dl, s3 _ _ hl⟩, O, ?_⟩
      rw [esg]
      refine ⟨_, rfl, rfl, _, rfl, ?_⟩
      refine dNT (fun z => by cases z) ?_
      have hgl : g < cs.length := by rw [cl]; exact hg
      refine ⟨_, rfl, _, rfl, pc, _, _, _, rfl, rfl, SqL.of hc3, atI_nat (j := g) (nats_at hgl), _, _, rfl, rfl, _, rfl, _, rfl, pc, _, _, g, rfl, rfl, hc3, ixN_nat rfl (by rw [nats_len]; exact hgl), ?_⟩
      refine ⟨_, _, cs.set g (cs[g] + 1), rfl, sM s3 (sF s0 hpc), ?_, ?_, ?_, ?_⟩
      · rw [upd_same]
        have e1 : (fun i j => V.int (i + j)) (cs[g] : Int) 1 = V.int ((cs[g] + 1 : Nat) : Int) := by
          show V.int ((cs[g] : Int) + 1) = _
          rw [show (cs[g] : Int) + 1 = ((cs[g] + 1 : Nat) : Int) by omega]
        rw [e1, nats_set]
      · rw [upd_ne n2]; exact hy3
      · rw [List.length_set]; exact cl
      · intro g'
        by_cases e : g' = g
        · subst e
          refine ⟨?_, fun _ => ⟨n, hn, esg⟩⟩
          rw [getD_lt (by rw [List.length_set]; exact hgl), List.getElem_set_self]
          have := (cc g').1
          rw [getD_lt hgl] at this
          omega
        · have hne : (cs.set g (cs[g] + 1)).getD g' 0 = cs.getD g' 0 := by
            rw [List.getD, List.getD, List.getElem?_set_ne (fun z => e z.symm)]
          rw [hne]
          exact ⟨by have := (cc g').1; omega, (cc g').2⟩
    · rintro σ H3 ⟨v2, v3, cs, rfl, s3, hc3, hy3, cl, cc⟩
      exact ⟨_, rfl, k _ pc cs s3 (sF s0 hpc) hc3 cl fun g => ⟨by have := (cc g).1; rw [nats_len] at this; omega, (cc g).2⟩⟩
end

end K30

namespace K30
open PySem PySem.Spec PyProof.Rows L2
/-! ## W24: ages -/
open K30X
theorem segOf_lt {L : Lay} (O : L.Ok) {a g : Nat} (h : segOf L a = some g) : g < L.segs := by
  unfold segOf at h
  by_cases c : a < 2 * L.rb ∨ L.db ≤ a
  · rw [if_pos c] at h; cases h
  · rw [if_neg c] at h
    injection h with h
    have b := O.b16
    rw [← h]
    refine (Nat.div_lt_iff_lt_mul (by omega)).mpr ?_
    have e : L.db = 2 * L.rb + L.segs * L.blks := rfl
    omega
section
variable {P : Program} {w : World} {K : PySem.W.Frag} {mg : Str → Option Value} {base : Heap}
def sp_ages (K : PySem.W.Frag) : Sp := fun vs H Q _ => ∃ (lg dv lay : Addr) (H0 : Hp) (L : Lay) (st : St), vs = [.ref lg] ∧ LogO K H0 H lg dv lay L st ∧ L.Ok ∧
  ∀ H' p (zs : List Int), Same H H' → H p = Option.none → H' p = some (.lst (zs.map V.int)) → zs.length = L.segs → Q (.ref p) H'
theorem sc_ages : FnScope ["log", "newest", "address", "block", "segment", "sequence"] ["log"] (defScope s_ages) := ⟨rfl, rfl, rfl, by decide +kernel, rfl, by decide +kernel, by decide +kernel⟩
theorem cal_ages (T : Txt K mg) (F : FD K mg "ages" s_ages) (c_segment_of : C8.Cal P w K mg base 1 "segment_of" (sp_segment_of K) []) (F_wb : MD K (CD K) "written_blocks" "Device.written_blocks" s_Device_written_blocks) : C8.Cal P w K mg base 2 "ages" (sp_ages K) [] := by
  obtain ⟨f, fd, F, hm⟩ := F
  refine ⟨f, fd, _, _, F.ok sc_ages (fun vs H Q E h => ?_) (fun cdv A outer s H vs Q E hr h => ?_), hm, F.kp, F.bindsN (fun _ _ _ _ _ _ us hl => match us, hl with | [_], _ => rfl), .nil⟩
  · obtain ⟨_, _, _, _, _, _, rfl, _⟩ := h
    rfl
  · obtain ⟨lg, dv, lay, H0, L, st, rfl, h, O, k⟩ := h
    obtain ⟨H1, q, w, y⟩ := h.opn
    obtain ⟨dl, hl⟩ := w.hl y
    obtain ⟨p, hd⟩ := w.d
    have ob := O.bnd
    have s16 := O.s16
    refine ⟨_, PSs.nox (pss_cons (ps_set (i := 1) sc_ages.nd rfl (Or.inl rfl) (pe_op op_rep (pe_lst (pa_cons pe_int pa_nil)) (pe_fld (pe_fld (pv 0) rfl) rfl)))
      (pss_cons (ps_wb T F_wb PassesOwn.never rfl xeOk_nox (hr.mono (by decide)) (pe_fld (pv 0) rfl) (pg_tup rfl (pgs_cons (pg_name (i := 2) sc_ages.nd rfl (Or.inl rfl)) (pgs_cons (pg_name (i := 3) sc_ages.nd rfl (Or.inl rfl)) pgs_nil))) (pss_cons (ps_set (i := 4) sc_ages.nd rfl (Or.inl rfl) (C8.pe_c c_segment_of hr (by decide) (by rfl) (pa_cons (pe_fld (pv 0) rfl) (pa_cons (pv 2) pa_nil))))
      (pss_one (ps_if (pt_cmpR op_notN (pv 4) pe_non (nomark _)) (pss_one (ps_asg (pe_callB (call_max2 rfl) (by rfl) T.b_max (by decide +kernel) (pa_cons (pe_ix ix_list (pv 1) (pv 4) (fun _ _ => rfl)) (pa_cons (pe_ix ix_tup (pv 3) pe_int (fun _ _ => rfl)) pa_nil))) (pg_sub (pv 1) (pv 4) set_list))) pss_nil))))
      (pss_one (ps_ret (pe_lc (own := [("sequence", 5)]) (g := gName 5) (tt := tYes) (by rfl) sc_ages.nd (pi_list (pv 1)) (blkOk_by (N := ["log", "newest", "address", "block", "segment", "sequence"]) (sc := defScope s_ages) (by decide +kernel)) (fun _ _ _ _ _ => pg_name (i := 5) sc_ages.nd rfl (Or.inl rfl)) (fun _ _ _ _ _ => pts_nil) (fun _ _ _ _ _ => (pe_op op_sub (pe_fldK (K := K) rfl (pv 0) rfl) (pv 5)))))))), ?_⟩
    refine ⟨by show 1 ≤ sizeLine; decide, fun p0 hp0 => ?_⟩
    have s0 := sN (o := .lst [.int 0]) (sR H) hp0
    refine ⟨_, rfl, lg, _, q.dx, _, _, rfl, s0 _ _ w.h0, T.cG, T.nG_layout, rfl, lay, _, dl, _, _, rfl, s0 _ _ hl, T.cL, T.nL_segments, rfl, ?_⟩
    refine ⟨p0, _, _, rfl, rfl, upd_same, by omega, by omega, ?_, fun pc hpc => ?_⟩
    · rw [show ([V.int 0] : List V).length = 1 from rfl]; exact sz_ok (by omega)
    have er : (List.replicate ((L.segs : Int)).toNat [V.int 0]).flatten = nats (List.replicate L.segs 0) := by rw [show ((L.segs : Int)).toNat = L.segs by omega, nats_rep]
    rw [er]
    have s1 := sN (o := .lst (nats (List.replicate L.segs 0))) s0 hpc
    have d1 := hd.h0
    have cell : ∀ (j : Nat) v, p.vse[j]? = some v → ∃ o, st.dev.seen[j]? = some o ∧ OBR H o v := fun j v e => by
      have hj : j < p.vse.length := (List.getElem?_eq_some_iff.mp e).1
      have hj' : j < st.dev.seen.length := by rw [show st.dev.seen.length = p.vse.length from hd.r2.1]; exact hj
      exact ⟨_, List.getElem?_eq_getElem hj', hd.r2.2 j _ _ (List.getElem?_eq_getElem hj') e⟩
    have nse : pc ≠ p.se := fun e => by have := s0 _ _ hd.h2; rw [← e, hpc] at this; cases this
    refine ⟨_, rfl, lg, _, q.dx, _, _, rfl, s1 _ _ w.h0, T.cG, T.nG_device, rfl, dv, p.dx, p.se, _, p.vse, fun j σ H' => ∃ (v2 v3 v4 : Option V) (cs : List Nat), σ = [some (.ref lg), some (.ref pc), v2, v3, v4, none] ∧ Same H H' ∧ H' pc = some (.lst (nats cs)) ∧ cs.length = L.segs,
      rfl, s1 _ _ hd.h0, rfl, rfl, fun v hv => ?_, ⟨none, none, none, _, rfl, s1, upd_same, List.length_replicate⟩, ?_, ?_, ?_⟩
    · obtain ⟨j, hj, e⟩ := List.mem_iff_getElem.mp hv
      obtain ⟨o, _, r⟩ := cell j v (by rw [List.getElem?_eq_getElem hj, e])
      cases o with
      | none => exact .inl r
      | some b => obtain ⟨a, e, _⟩ := r; exact .inr ⟨a, e⟩
    · rintro j σ H3 ⟨v2, v3, v4, cs, e, s3, hc3, cl⟩
      exact s3 _ _ hd.h2
    · rintro j σ H3 hj ⟨v2, v3, v4, cs, rfl, s3, hc3, cl⟩ rest
      refine ⟨_, rfl, pc, rfl, ⟨_, SqL.of hc3⟩, fun D hD => lc_list (K := K) (a := pc) (xs := nats cs) (fun i H' => Same H H' ∧ H' pc = some (.lst (nats cs)) ∧ ∃ zs : List Int, H' D = some (.lst (zs.map V.int)) ∧ zs.length = i)
        ⟨sN s3 hD, uN hc3 hD, [], upd_same, rfl⟩ (fun i H' _ ⟨_, e, _⟩ => SqL.of e) ?_ ?_⟩
      · rintro i x H5 hx ⟨s5, hc5, zs, hz, zl⟩
        obtain ⟨n, en, rfl⟩ := nats_get hx
        have hi : i < cs.length := (List.getElem?_eq_some_iff.mp en).1
        have nD : pc ≠ D := fun e => by rw [e, hD] at hc3; cases hc3
        refine ⟨rfl, _, rfl, lg, _, q.dx, _, _, rfl, s5 _ _ w.h0, T.cG, T.nG_last_sequence, rfl, _, rfl, _, _, rfl, rfl, _, hz, sz_lt (by rw [List.length_map]; omega), ?_⟩
        refine ⟨sM s5 (sF s3 hD), by rw [upd_ne nD]; exact hc5, zs ++ [(st.seq : Int) - (n : Int)], ?_, by rw [List.length_append, zl]; rfl⟩
        rw [upd_same, List.map_append]; rfl
      · rintro H5 ⟨s5, hc5, zs, hz, zl⟩
        exact k _ D zs s5 (sF s3 hD) hz (by rw [zl, nats_len]; exact cl)
    · rintro i j σ H3 a ⟨v2, v3, v4, cs, rfl, s3, hc3, cl⟩ hij hxj skip T4 hT4
      obtain ⟨o, eo, ro⟩ := cell j _ hxj
      cases o with
      | none => cases ro
      | some b =>
        obtain ⟨a', ea, tb, ht8, _⟩ := ro
        cases ea
        have s34 := sN (o := .tup [.int (j : Nat), .ref a]) (sR H3) hT4
        have s4 := sT s3 s34
        refine ⟨T4, _, rfl, SqT.of upd_same, rfl, _, _, rfl, _, _, rfl, rfl, ?_⟩
        refine ⟨_, rfl, lg, _, q.dx, _, _, rfl, s4 _ _ w.h0, T.cG, T.nG_layout, rfl, _, rfl, lay, j, L, rfl, ⟨dl, s4 _ _ hl⟩, O, ?_⟩
        have hc4 := s34 _ _ hc3
        cases esg : segOf L j with
        | none =>
          refine ⟨_, rfl, rfl, _, rfl, ?_⟩
          refine dNF rfl ?_
          exact ⟨_, _, _, cs, rfl, s4, hc4, cl⟩
        | some g =>
          refine ⟨_, rfl, rfl, _, rfl, ?_⟩
          refine dNT (fun z => by cases z) ?_
          have hgl : g < cs.length := by rw [cl]; exact segOf_lt O esg
          refine ⟨_, rfl, _, rfl, pc, _, _, _, rfl, rfl, SqL.of hc4, atI_nat (j := g) (nats_at hgl), _, rfl, a, _, _, _, rfl, rfl, SqT.of (s4 _ _ ht8), atI_nat (j := 1) rfl, _, _, rfl, _, rfl, _, rfl, pc, _, _, g, rfl, rfl, hc4, ixN_nat rfl (by rw [nats_len]; exact hgl), ?_⟩
          have em : V.int (if (b.seq : Int) > (cs[g] : Int) then (b.seq : Int) else (cs[g] : Int)) = V.int ((if cs[g] < b.seq then b.seq else cs[g] : Nat) : Int) := by
            by_cases c : cs[g] < b.seq
            · rw [if_pos (by omega), if_pos c]
            · rw [if_neg (by omega), if_neg c]
          refine ⟨_, _, _, cs.set g (if cs[g] < b.seq then b.seq else cs[g]), rfl, sM s4 (sF s0 hpc), ?_, by rw [List.length_set]; exact cl⟩
          rw [upd_same, em, nats_set]
end

end K30

namespace K30
open PySem PySem.Spec PyProof.Rows L2
/-! ## W25: room -/
open K30X
section
variable {P : Program} {w : World} {K : PySem.W.Frag} {mg : Str → Option Value} {base : Heap}
def sp_has_room (K : PySem.W.Frag) : Sp := fun vs H Q _ => ∃ (lg dv lay : Addr) (H0 : Hp) (L : Lay) (st : St) (c : Nat), vs = [.ref lg, .int (c : Int)] ∧ LogO K H0 H lg dv lay L st ∧ L.Ok ∧ (∃ rd, LOK L rd st.ls) ∧
  ∀ H' b, Same H H' → Q (.bl b) H'
theorem sc_has_room : FnScope ["log", "count"] ["log", "count"] (defScope s_has_room) := ⟨rfl, rfl, rfl, by decide +kernel, rfl, by decide +kernel, by decide +kernel⟩
theorem cal_has_room (T : Txt K mg) (F : FD K mg "has_room" s_has_room) (c_live_counts : C8.Cal P w K mg base 2 "live_counts" (sp_live_counts K) []) : C8.Cal P w K mg base 3 "has_room" (sp_has_room K) [] := by
  obtain ⟨f, fd, F, hm⟩ := F
  refine ⟨f, fd, _, _, F.ok sc_has_room (fun vs H Q E h => ?_) (fun cdv A outer s H vs Q E hr h => ?_), hm, F.kp, F.bindsN (fun _ _ _ _ _ _ us hl => match us, hl with | [_, _], _ => rfl), .nil⟩
  · obtain ⟨_, _, _, _, _, _, _, rfl, _⟩ := h
    rfl
  · obtain ⟨lg, dv, lay, H0, L, st, c, rfl, h, O, ⟨rd, ok⟩, k⟩ := h
    obtain ⟨H1, q, w, y⟩ := h.opn
    obtain ⟨dl, hl⟩ := w.hl y
    refine ⟨_, PSs.nox (pss_cons (ps_if (PW.pt (pw_or (pt_cmpR op_le (pe_op op_add (pe_op op_add (pe_fld (pv 0) rfl) pe_int) (pv 1)) (pe_fld (pe_fld (pv 0) rfl) rfl) (nomark _)) (pw_or1 (pt_cmpR op_ge (pe_callB call_len_seq (by rfl) T.b_len PySem.boot_len (pa_cons (pe_fld (pv 0) rfl) pa_nil)) pe_int (nomark _))))) (pss_one (ps_ret pe_bl)) pss_nil)
      (pss_one (ps_ret (pe_and (pe_cmpR op_eq (pe_callB call_len_seq (by rfl) T.b_len PySem.boot_len (pa_cons (pe_fld (pv 0) rfl) pa_nil)) pe_int (nomark _)) (pe_one (pe_cmpR op_eq (pe_ix ix_list (C8.pe_c c_live_counts hr (by decide) (by rfl) (pa_cons (pv 0) pa_nil)) (pe_fld (pv 0) rfl) (fun _ _ => rfl)) pe_int (nomark _))))))), ?_⟩
    refine ⟨_, rfl, lg, _, q.dx, _, _, rfl, w.h0, T.cG, T.nG_place, rfl, _, _, rfl, rfl, _, rfl, _, _, rfl, rfl, _, rfl, lg, _, q.dx, _, _, rfl, w.h0, T.cG, T.nG_layout, rfl, lay, _, dl, _, _, rfl, hl, T.cL, T.nL_segment_blocks, rfl, _, _, rfl, rfl, _, rfl, ?_⟩
    by_cases c1 : (st.ls.place : Int) + 1 + (c : Int) ≤ (L.blks : Int)
    · refine dT c1 ?_
      exact k _ true (sR H)
    · refine dF c1 ?_
      refine ⟨_, rfl, lg, _, q.dx, _, _, rfl, w.h0, T.cG, T.nG_queue, rfl, q.qu, _, rfl, .inl (SqL.of w.hq), _, _, rfl, rfl, _, rfl, ?_⟩
      by_cases c2 : ((nats st.ls.queue).length : Int) ≥ 2
      · refine dT c2 ?_
        exact k _ true (sR H)
      · refine dF c2 ?_
        refine ⟨_, rfl, lg, _, q.dx, _, _, rfl, w.h0, T.cG, T.nG_queue, rfl, q.qu, _, rfl, .inl (SqL.of w.hq), rfl, ?_⟩
        refine ⟨_, rfl, ?_⟩
        by_cases c3 : V.int ((nats st.ls.queue).length : Int) = V.int 1
        · refine dT c3 ?_
          refine ⟨_, rfl, lg, dv, lay, H0, L, st, rfl, h, O, ⟨rd, ok⟩, fun H2 p cs s2 hp hcs cl _ => ?_⟩
          have hh : st.ls.head < cs.length := by rw [cl]; exact ok.hr _ List.mem_cons_self
          exact ⟨_, rfl, lg, _, q.dx, _, _, rfl, s2 _ _ w.h0, T.cG, T.nG_head, rfl, p, _, _, _, rfl, rfl, SqL.of hcs, atI_nat (j := st.ls.head) (nats_at hh), rfl, k _ _ s2⟩
        · refine dF c3 ?_
          exact k _ false (sR H)
end

end K30

namespace K30
open PySem PySem.Spec PyProof.Rows L2
/-! ## W26: victims, cargo -/
open K30X
section
variable {P : Program} {w : World} {K : PySem.W.Frag} {mg : Str → Option Value} {base : Heap}
def sp_candidates (K : PySem.W.Frag) : Sp := fun vs H Q _ => ∃ (lg dv lay : Addr) (H0 : Hp) (L : Lay) (st : St), vs = [.ref lg] ∧ LogO K H0 H lg dv lay L st ∧ L.Ok ∧ (∃ rd, LOK L rd st.ls) ∧
  ∀ H' p gs, Same H H' → H p = Option.none → H' p = some (.lst (nats gs)) → gs.length ≤ L.segs → (∀ g ∈ gs, ∃ a, Live st.ls a ∧ segOf L a = some g) → Q (.ref p) H'
def sp_victims (K : PySem.W.Frag) : Sp := fun vs H Q _ => ∃ (lg dv lay od : Addr) (H0 : Hp) (L : Lay) (st : St) (os : List Nat), vs = [.ref lg, .ref od] ∧ LogO K H0 H lg dv lay L st ∧ L.Ok ∧ (∃ rd, LOK L rd st.ls) ∧ H od = some (.lst (nats os)) ∧ os.length ≤ 1000 ∧
  ∀ H' p gs, Same H H' → H p = Option.none → H' p = some (.lst (nats gs)) → gs.length ≤ 2000 → (∀ g ∈ gs, ∃ a, Live st.ls a ∧ segOf L a = some g) → Q (.ref p) H'
theorem sc_victims : FnScope ["log", "order", "rest", "chosen", "segment"] ["log", "order"] (defScope s_victims) := ⟨rfl, rfl, rfl, by decide +kernel, rfl, by decide +kernel, by decide +kernel⟩
theorem cal_victims (T : Txt K mg) (F : FD K mg "victims" s_victims) (c_candidates : C8.Cal P w K mg base 3 "candidates" (sp_candidates K) []) : C8.Cal P w K mg base 4 "victims" (sp_victims K) [] := by
  obtain ⟨f, fd, F, hm⟩ := F
  refine ⟨f, fd, _, _, F.ok sc_victims (fun vs H Q E h => ?_) (fun cdv A outer s H vs Q E hr h => ?_), hm, F.kp, F.bindsN (fun _ _ _ _ _ _ us hl => match us, hl with | [_, _], _ => rfl), .nil⟩
  · obtain ⟨_, _, _, _, _, _, _, _, rfl, _⟩ := h
    rfl
  · obtain ⟨lg, dv, lay, od, H0, L, st, os, rfl, h, O, ⟨rd, ok⟩, hod, hol, k⟩ := h
    obtain ⟨H1, q, w, y⟩ := h.opn
    obtain ⟨dl, hl⟩ := w.hl y
    refine ⟨_, PSs.nox (pss_cons (ps_set (i := 2) sc_victims.nd rfl (Or.inl rfl) (C8.pe_c c_candidates hr (by decide) (by rfl) (pa_cons (pv 0) pa_nil)))
      (pss_cons (ps_set (i := 3) sc_victims.nd rfl (Or.inl rfl) (pe_lst pa_nil))
      (pss_cons (ps_for PassesOwn.never rfl (pi_list (pe_op op_cat (pv 1) (pv 2))) (pg_name (i := 4) sc_victims.nd rfl (Or.inl rfl)) (pss_one (ps_if (PW.pt (pw_and (pt_cmpR op_in_seq (pv 4) (pv 2) (by rfl)) (pw_and (pt_cmpR op_ne (pv 4) (pe_fld (pv 0) rfl) (nomark _)) (pw_and1 (pt_cmpR op_notIn_seq (pv 4) (pv 3) (by rfl)))))) (pss_one (ps_expr (pe_bm PySem.F.plainAttrs_list PySem.F.slot_list_append PySem.F.type_list_append mt_append (pv 3) (pa_cons (pv 4) pa_nil)))) pss_nil)))
      (pss_cons (ps_if (pt_cmpR op_in_seq (pe_fld (pv 0) rfl) (pv 2) (by rfl)) (pss_one (ps_expr (pe_bm PySem.F.plainAttrs_list PySem.F.slot_list_append PySem.F.type_list_append mt_append (pv 3) (pa_cons (pe_fld (pv 0) rfl) pa_nil)))) pss_nil)
      (pss_one (ps_ret (pv 3))))))), ?_⟩
    have s16 := O.s16
    refine ⟨_, rfl, lg, dv, lay, H0, L, st, rfl, h, O, ⟨rd, ok⟩, fun H2 pr gs s2 hpr hgs gl gm => ?_⟩
    refine ⟨Nat.zero_le _, fun pc hpc => ?_⟩
    have s3 := sN (o := .lst []) s2 hpc
    have hpr3 := uN (o := .lst []) hgs hpc
    refine ⟨_, rfl, _, rfl, od, pr, _, _, rfl, rfl, s3 _ _ hod, hpr3, ?_, fun p4 hp4 => ?_⟩
    · rw [nats_len, nats_len]; exact sz_ok (by omega)
    have s4 := sN (o := .lst (nats os ++ nats gs)) s3 hp4
    have n4 : p4 ≠ pc := fun e => by rw [e, upd_same] at hp4; cases hp4
    have nr : pr ≠ pc := fun e => by rw [← e, hgs] at hpc; cases hpc
    refine ⟨p4, rfl, ⟨_, SqL.of upd_same⟩, for_it walk_list (fun i σ H' => ∃ (v4 : Option V) (cs : List Nat), σ = [some (.ref lg), some (.ref od), some (.ref pr), some (.ref pc), v4] ∧ Same H H' ∧ H' pc = some (.lst (nats cs)) ∧ H' pr = some (.lst (nats gs)) ∧ H' p4 = some (.lst (nats os ++ nats gs)) ∧ cs.length ≤ i ∧ ∀ g ∈ cs, g ∈ gs)
      ⟨none, [], rfl, s4, uN upd_same hp4, uN hpr3 hp4, upd_same, Nat.le_refl _, fun g hg => by cases hg⟩ (fun i σ H' _ ⟨_, _, _, _, _, _, e, _⟩ => SqL.of e) ?_ ?_⟩
    · rintro i x σ H5 H6 hlt ⟨v4, cs, rfl, s5, hc5, hr5, h45, cl, cm⟩ ⟨rfl, hx⟩
      rw [← nats_app] at hx
      obtain ⟨n, en, rfl⟩ := nats_get hx
      have same_ : ∃ (v4 : Option V) (cs : List Nat), ([some (.ref lg), some (.ref od), some (.ref pr), some (.ref pc), some (.int (n : Int))] : List (Option V)) = [some (.ref lg), some (.ref od), some (.ref pr), some (.ref pc), v4] ∧ Same H H6 ∧ H6 pc = some (.lst (nats cs)) ∧ H6 pr = some (.lst (nats gs)) ∧ H6 p4 = some (.lst (nats os ++ nats gs)) ∧ cs.length ≤ i + 1 ∧ ∀ g ∈ cs, g ∈ gs := ⟨_, cs, rfl, s5, hc5, hr5, h45, by omega, cm⟩
      have ev : ∀ zs : List Nat, (if false = true then !inV (.int (n : Int)) (nats zs) else inV (.int (n : Int)) (nats zs)) = decide (n ∈ zs) := fun zs => by rw [if_neg Bool.false_ne_true, inV_nats]
      have ev2 : ∀ zs : List Nat, (if true = true then !inV (.int (n : Int)) (nats zs) else inV (.int (n : Int)) (nats zs)) = !decide (n ∈ zs) := fun zs => by rw [if_pos rfl, inV_nats]
      refine ⟨_, rfl, _, rfl, pr, _, rfl, .inl (SqL.of hr5), rfl, flat_nats, _, rfl, ?_⟩
      rw [ev]
      by_cases c1 : n ∈ gs
      · refine dT c1 ?_
        refine ⟨_, rfl, _, rfl, lg, _, q.dx, _, _, rfl, s5 _ _ w.h0, T.cG, T.nG_head, rfl, rfl, _, rfl, ?_⟩
        by_cases c2 : V.int (n : Int) = V.int (st.ls.head : Int)
        · refine dNF c2 ?_
          exact same_
        · refine dNT c2 ?_
          refine ⟨_, rfl, _, rfl, pc, _, rfl, .inl (SqL.of hc5), rfl, flat_nats, _, rfl, ?_⟩
          rw [ev2]
          by_cases c3 : n ∈ cs
          · refine dNF c3 ?_
            exact same_
          · refine dNT c3 ?_
            refine ⟨_, rfl, .inl ⟨rfl, _, SqL.of hc5⟩, _, rfl, pc, _, _, rfl, rfl, hc5, sz_lt (by rw [nats_len]; have := hlt; simp [nats_len] at this; omega), ?_⟩
            refine ⟨_, cs ++ [n], rfl, sM s5 (sF s2 hpc), ?_, by rw [upd_ne nr]; exact hr5, by rw [upd_ne n4]; exact h45, by rw [List.length_append]; simp; omega, fun g hg => ?_⟩
            · rw [upd_same, nats_app]; rfl
            · rcases List.mem_append.mp hg with z | z
              · exact cm g z
              · rw [List.mem_singleton.mp z]; exact c1
      · refine dF c1 ?_
        exact same_
    · rintro σ H5 ⟨v4, cs, rfl, s5, hc5, hr5, h45, cl, cm⟩
      have len2 : cs.length ≤ 1900 := by
        have : (nats os ++ nats gs).length = os.length + gs.length := by rw [List.length_append, nats_len, nats_len]
        omega
      refine ⟨_, rfl, lg, _, q.dx, _, _, rfl, s5 _ _ w.h0, T.cG, T.nG_head, rfl, _, rfl, pr, _, rfl, .inl (SqL.of hr5), rfl, flat_nats, _, rfl, ?_⟩
      have ev : (if false = true then !inV (.int (st.ls.head : Int)) (nats gs) else inV (.int (st.ls.head : Int)) (nats gs)) = decide (st.ls.head ∈ gs) := by rw [if_neg Bool.false_ne_true, inV_nats]
      rw [ev]
      by_cases c1 : st.ls.head ∈ gs
      · refine dT c1 ?_
        refine ⟨_, rfl, .inl ⟨rfl, _, SqL.of hc5⟩, _, rfl, lg, _, q.dx, _, _, rfl, s5 _ _ w.h0, T.cG, T.nG_head, rfl, pc, _, _, rfl, rfl, hc5, sz_lt (by rw [nats_len]; omega), ?_⟩
        refine ⟨_, rfl, k _ pc (cs ++ [st.ls.head]) (sM s5 (sF s2 hpc)) (sF s2 hpc) ?_ (by rw [List.length_append]; simp; omega) fun g hg => ?_⟩
        · rw [upd_same, nats_app]; rfl
        · rcases List.mem_append.mp hg with z | z
          · exact gm g (cm g z)
          · rw [List.mem_singleton.mp z]; exact gm _ c1
      · refine dF c1 ?_
        exact ⟨_, rfl, k _ pc cs s5 (sF s2 hpc) hc5 (by omega) fun g hg => gm g (cm g hg)⟩
end

end K30

namespace K30
open PySem PySem.Spec PyProof.Rows L2
/-! ## W27: fill -/
open K30X
section
variable {P : Program} {w : World} {K : PySem.W.Frag} {mg : Str → Option Value} {base : Heap}
def sp_cargo (K : PySem.W.Frag) : Sp := fun vs H Q _ => ∃ (lg dv lay od : Addr) (H0 : Hp) (L : Lay) (st : St) (os : List Nat), vs = [.ref lg, .ref od] ∧ LogO K H0 H lg dv lay L st ∧ L.Ok ∧ (∃ rd, LOK L rd st.ls) ∧ H od = some (.lst (nats os)) ∧ os.length ≤ 1000 ∧
  ∀ H' p xs, Same H H' → H p = Option.none → H' p = some (.lst (nats xs)) → xs.length ≤ 1000 → Q (.ref p) H'
def sp_fill (K : PySem.W.Frag) : Sp := fun vs H Q _ => ∃ (lg dv lay od : Addr) (H0 : Hp) (L : Lay) (st : St) (os : List Nat), vs = [.ref lg, .ref od] ∧ LogO K H0 H lg dv lay L st ∧ L.Ok ∧ st.Fit L ∧ st.Chk L ∧ (∀ c b, st.rd c = some b → b.Wt L) ∧ (∀ as st', appendMove L st as = some st' → st'.Chk L) ∧ H od = some (.lst (nats os)) ∧ os.length ≤ 1000 ∧
  ∀ H' st' b, Fill L st st' b → LogO K H0 H' lg dv lay L st' → Q (.bl b) H'
theorem sc_fill : FnScope ["log", "order", "addresses"] ["log", "order"] (defScope s_fill) := ⟨rfl, rfl, rfl, by decide +kernel, rfl, by decide +kernel, by decide +kernel⟩
theorem cal_fill (T : Txt K mg) (F : FD K mg "fill" s_fill) (c_cargo : C8.Cal P w K mg base 5 "cargo" (sp_cargo K) []) (c_append_move : C8.Cal P w K mg base 4 "append_move" (sp_append_move K) []) (c_write_checkpoint : C8.Cal P w K mg base 3 "write_checkpoint" (sp_write_checkpoint K) []) : C8.Cal P w K mg base 6 "fill" (sp_fill K) [] := by
  obtain ⟨f, fd, F, hm⟩ := F
  refine ⟨f, fd, _, _, F.ok sc_fill (fun vs H Q E h => ?_) (fun cdv A outer s H vs Q E hr h => ?_), hm, F.kp, F.bindsN (fun _ _ _ _ _ _ us hl => match us, hl with | [_, _], _ => rfl), .nil⟩
  · obtain ⟨_, _, _, _, _, _, _, _, rfl, _⟩ := h
    rfl
  · obtain ⟨lg, dv, lay, od, H0, L, st, os, rfl, h, O, F, C, hw, hC, hod, hol, k⟩ := h
    obtain ⟨H1, q, w, y⟩ := h.opn
    obtain ⟨dl, hl⟩ := w.hl y
    refine ⟨_, PSs.nox (pss_cons (ps_set (i := 2) sc_fill.nd rfl (Or.inl rfl) (C8.pe_c c_cargo hr (by decide) (by rfl) (pa_cons (pv 0) (pa_cons (pv 1) pa_nil))))
      (pss_cons (ps_if (PW.pt (pw_or (pt_cmpR op_eq (pe_callB call_len_seq (by rfl) T.b_len PySem.boot_len (pa_cons (pv 2) pa_nil)) pe_int (nomark _)) (pw_or1 (pt_cmpR op_eq (pe_callB call_len_seq (by rfl) T.b_len PySem.boot_len (pa_cons (pe_fld (pv 0) rfl) pa_nil)) pe_int (nomark _))))) (pss_one (ps_ret pe_bl)) pss_nil)
      (pss_cons (ps_if (pt_not (pt_val (C8.pe_c c_append_move hr (by decide) (by rfl) (pa_cons (pv 0) (pa_cons (pv 2) pa_nil))))) (pss_one (ps_ret pe_bl)) pss_nil)
      (pss_cons (ps_expr (C8.pe_c c_write_checkpoint hr (by decide) (by rfl) (pa_cons (pv 0) pa_nil)))
      (pss_one (ps_ret pe_bl)))))), ?_⟩
    refine ⟨_, rfl, _, rfl, lg, dv, lay, od, H0, L, st, os, rfl, h, O, C.ok, hod, hol, fun H2 p xs s2 hp hxs hxl => ?_⟩
    have h2 := h.ext s2
    have e2 := ext_same (H' := H2) h.frame
    refine ⟨_, rfl, p, _, rfl, .inl (SqL.of hxs), rfl, _, rfl, ?_⟩
    by_cases c1 : V.int ((nats xs).length : Int) = V.int 0
    · refine dT c1 ?_
      exact k _ st false (.inl ⟨rfl, rfl⟩) (h2.shrink e2 y)
    refine dF c1 ?_
    refine ⟨_, rfl, lg, _, q.dx, _, _, rfl, s2 _ _ w.h0, T.cG, T.nG_queue, rfl, q.qu, _, rfl, .inl (SqL.of (s2 _ _ w.hq)), rfl, _, rfl, ?_⟩
    by_cases c2 : V.int ((nats st.ls.queue).length : Int) = V.int 0
    · refine dT c2 ?_
      exact k _ st false (.inl ⟨rfl, rfl⟩) (h2.shrink e2 y)
    refine dF c2 ?_
    refine ⟨_, rfl, _, rfl, lg, dv, lay, _, L, st, p, xs, rfl, h2, O, (ext_new hp).trans hxs, hxl, F, hw, fun e H3 h3 => ⟨_, rfl, ?_⟩, fun st' e H3 h3 => ⟨_, rfl, ?_⟩⟩
    · refine iteT ?_
      exact k _ st false (.inl ⟨rfl, rfl⟩) (h3.shrink e2 y)
    · refine iteF ?_
      refine ⟨_, rfl, lg, dv, lay, _, L, st', rfl, h3, O, hC _ _ e, fun H4 fr nf h4 => ?_⟩
      exact k _ _ true (.inr ⟨rfl, xs, st', fr, e, nf, rfl⟩) (h4.shrink e2 y)
end

end K30

namespace K30
open PySem PySem.Spec PyProof.Rows L2
/-! ## W28: cargo -/
open K30X
section
variable {P : Program} {w : World} {K : PySem.W.Frag} {mg : Str → Option Value} {base : Heap}
theorem sc_cargo : FnScope ["log", "order", "by_segment", "address", "addresses", "segment"] ["log", "order"] (defScope s_cargo) := ⟨rfl, rfl, rfl, by decide +kernel, rfl, by decide +kernel, by decide +kernel⟩
theorem cal_cargo (T : Txt K mg) (F : FD K mg "cargo" s_cargo) (c_live_addresses : C8.Cal P w K mg base 1 "live_addresses" (sp_live_addresses K) []) (c_segment_of : C8.Cal P w K mg base 1 "segment_of" (sp_segment_of K) []) (c_victims : C8.Cal P w K mg base 4 "victims" (sp_victims K) []) : C8.Cal P w K mg base 5 "cargo" (sp_cargo K) [] := by
  obtain ⟨f, fd, F, hm⟩ := F
  refine ⟨f, fd, _, _, F.ok sc_cargo (fun vs H Q E h => ?_) (fun cdv A outer s H vs Q E hr h => ?_), hm, F.kp, F.bindsN (fun _ _ _ _ _ _ us hl => match us, hl with | [_, _], _ => rfl), .nil⟩
  · obtain ⟨_, _, _, _, _, _, _, _, rfl, _⟩ := h
    rfl
  · obtain ⟨lg, dv, lay, od, H0, L, st, os, rfl, h, O, ⟨rd, ok⟩, hod, hol, k⟩ := h
    obtain ⟨H1, q, w, y⟩ := h.opn
    obtain ⟨dl, hl⟩ := w.hl y
    have sm := ok.sm O
    refine ⟨_, PSs.nox (pss_cons (ps_set (i := 2) sc_cargo.nd rfl (Or.inl rfl) pe_dnewK)
      (pss_cons (ps_for PassesOwn.never rfl (pi_list (C8.pe_c c_live_addresses hr (by decide) (by rfl) (pa_cons (pv 0) pa_nil))) (pg_name (i := 3) sc_cargo.nd rfl (Or.inl rfl)) (pss_one (ps_expr (pe_bm PySem.F.plainAttrs_list PySem.F.slot_list_append PySem.F.type_list_append mt_append (pe_dsetd (pv 2) (C8.pe_c c_segment_of hr (by decide) (by rfl) (pa_cons (pe_fld (pv 0) rfl) (pa_cons (pv 3) pa_nil))) (pe_lst pa_nil) ⟨rfl, rfl, rfl, rfl⟩) (pa_cons (pv 3) pa_nil)))))
      (pss_cons (ps_set (i := 4) sc_cargo.nd rfl (Or.inl rfl) (pe_lst pa_nil))
      (pss_cons (ps_for PassesOwn.never rfl (pi_list (C8.pe_c c_victims hr (by decide) (by rfl) (pa_cons (pv 0) (pa_cons (pv 1) pa_nil)))) (pg_name (i := 5) sc_cargo.nd rfl (Or.inl rfl)) (pss_one (ps_expr (pe_bm PySem.F.plainAttrs_list PySem.F.slot_list_extend PySem.F.type_list_extend mt_extend (pv 4) (pa_cons (pe_dget (hu_of hr) (pv 2) (pv 5) (fun _ _ => rfl)) pa_nil)))))
      (pss_one (ps_ret (pe_slice sl_list (pv 4) po_none (po_some (pe_fld (pe_fld (pv 0) rfl) rfl))))))))), ?_⟩
    intro d hd
    have s1 := sN (o := .dK []) (sR H) hd
    refine ⟨_, rfl, lg, dv, lay, _, L, st, rfl, h.ext s1, sm.s3, sm.tl, fun H2 p2 ys s2 hp2 hy2 mem nd len => ?_⟩
    have s12 := sT s1 s2
    have hd2 : H2 d = some (.dK []) := s2 _ _ upd_same
    have np2 : p2 ≠ d := fun e => by rw [e, upd_same] at hp2; cases hp2
    refine ⟨p2, rfl, ⟨_, SqL.of hy2⟩, for_it walk_list (fun i σ H' => ∃ (v3 : Option V) (kvs : List (Key × V)), σ = [some (.ref lg), some (.ref od), some (.ref d), v3, none, none] ∧ Same H H' ∧ H' d = some (.dK kvs) ∧ H' p2 = some (.lst (nats ys)) ∧ kvs.length ≤ i ∧
        (∀ k v, valV kvs k = some v → ∃ l xs, v = .ref l ∧ H l = Option.none ∧ l ≠ d ∧ l ≠ p2 ∧ H' l = some (.lst (nats xs)) ∧ xs.length ≤ i) ∧ ∀ j n g, j < i → ys[j]? = some n → segOf L n = some g → ∃ v, valV kvs (Sum.inl (g : Int)) = some v)
      ⟨none, [], rfl, s12, hd2, hy2, Nat.le_refl _, fun k v e => (by cases e), fun j n g hj => absurd hj (Nat.not_lt_zero j)⟩ (fun i σ H' _ ⟨_, _, _, _, _, e, _⟩ => SqL.of e) ?_ ?_⟩
    · rintro i x σ H3 H4 hlt ⟨v3, kvs, rfl, s3, hd3, hy3, kl, kv, kg⟩ ⟨rfl, hx⟩
      obtain ⟨n, en, rfl⟩ := nats_get hx
      have hn : Live st.ls n := (mem n).mp (List.mem_of_getElem? en)
      obtain ⟨g, pp, ea, hg, _, hpp, _, _⟩ := ok.lv n hn
      have esg : segOf L n = some g := by rw [ea]; exact segOf_ad hg hpp
      refine ⟨_, rfl, d, rfl, .inl ⟨_, .of hd3⟩, _, rfl, lg, _, q.dx, _, _, rfl, s3 _ _ w.h0, T.cG, T.nG_layout, rfl, _, rfl, lay, n, L, rfl, ⟨dl, s3 _ _ hl⟩, O, ?_⟩
      rw [esg]
      refine ⟨Nat.zero_le _, fun pl hpl => ?_⟩
      have npd : pl ≠ d := fun e => by rw [e, hd3] at hpl; cases hpl
      have npp : pl ≠ p2 := fun e => by rw [e, hy3] at hpl; cases hpl
      have hd5 := uN (o := .lst []) hd3 hpl
      have hlt' : i < ys.length := (List.getElem?_eq_some_iff.mp en).1
      refine ⟨kvs, Sum.inl (g : Int), hd5, rfl, sz_lt (by omega), fun v hv => ?_, fun hnone => ?_⟩
      · obtain ⟨l, xs, rfl, hln, hld, hlp, hlx, hxl⟩ := kv _ v hv
        have hlx5 := uN (o := .lst []) hlx hpl
        refine ⟨.inl ⟨rfl, _, SqL.of hlx5⟩, _, rfl, l, _, _, rfl, rfl, hlx5, sz_lt (by rw [nats_len]; omega), ?_⟩
        have e1 : nats xs ++ [V.int (n : Int)] = nats (xs ++ [n]) := by rw [nats_app]; rfl
        rw [e1]
        refine ⟨_, kvs, rfl, sM (sN s3 hpl) hln, ?_, ?_, by omega, fun k' v' e' => ?_, fun j n' g' hj hn' hg' => ?_⟩
        · rw [upd_ne (Ne.symm hld)]; exact hd5
        · rw [upd_ne (Ne.symm hlp)]; exact uN hy3 hpl
        · obtain ⟨l', xs', r1, r2, r3, r4, r5, r6⟩ := kv k' v' e'
          by_cases q : l' = l
          · subst q
            exact ⟨l', xs ++ [n], r1, r2, r3, r4, upd_same, by rw [List.length_append]; simp; omega⟩
          · exact ⟨l', xs', r1, r2, r3, r4, by rw [upd_ne q]; exact uN r5 hpl, by omega⟩
        · by_cases q : j = i
          · subst q
            rw [en] at hn'; cases hn'
            rw [esg] at hg'; cases hg'
            exact ⟨_, hv⟩
          · exact kg j n' g' (by omega) hn' hg'
      · have hlp5 : upd (upd H4 pl (.lst [])) d (.dK (putK kvs (Sum.inl (g : Int)) (.ref pl))) pl = some (.lst (nats [])) := by rw [upd_ne npd]; exact upd_same
        refine ⟨.inl ⟨rfl, _, SqL.of hlp5⟩, _, rfl, pl, _, _, rfl, rfl, hlp5, sz_lt (by rw [nats_len]; simp), ?_⟩
        have e1 : nats [] ++ [V.int (n : Int)] = nats [n] := rfl
        rw [e1]
        have hdn : H d = Option.none := hd
        refine ⟨_, putK kvs (Sum.inl (g : Int)) (.ref pl), rfl, sM (sM (sN s3 hpl) hdn) (sF s3 hpl), ?_, ?_, ?_, fun k' v' e' => ?_, fun j n' g' hj hn' hg' => ?_⟩
        · rw [upd_ne (Ne.symm npd)]; exact upd_same
        · rw [upd_ne (Ne.symm npp), upd_ne np2]; exact uN hy3 hpl
        · have := length_putK kvs (Sum.inl (g : Int) : Key) (.ref pl); omega
        · rw [valV_put] at e'
          by_cases q : k' = Sum.inl (g : Int)
          · rw [if_pos q] at e'
            injection e' with e'
            exact ⟨pl, [n], e'.symm, sF s3 hpl, npd, npp, upd_same, by simp⟩
          · rw [if_neg q] at e'
            obtain ⟨l', xs', r1, r2, r3, r4, r5, r6⟩ := kv k' v' e'
            have nl : l' ≠ pl := fun z => by rw [z, hpl] at r5; cases r5
            exact ⟨l', xs', r1, r2, r3, r4, by rw [upd_ne nl, upd_ne r3]; exact uN r5 hpl, by omega⟩
        · rw [valV_put]
          by_cases q : j = i
          · subst q
            rw [en] at hn'; cases hn'
            rw [esg] at hg'; cases hg'
            exact ⟨_, if_pos rfl⟩
          · obtain ⟨v', e'⟩ := kg j n' g' (by omega) hn' hg'
            by_cases q2 : (Sum.inl (g' : Int) : Key) = Sum.inl (g : Int)
            · exact ⟨_, if_pos q2⟩
            · exact ⟨v', by rw [if_neg q2]; exact e'⟩
    · rintro σ H3 ⟨v3, kvs, rfl, s3, hd3, hy3, kl, kv, kg⟩
      refine ⟨Nat.zero_le _, fun pa hpa => ?_⟩
      have s4 := sN (o := .lst []) s3 hpa
      have e5 := (h.ext s4)
      refine ⟨_, rfl, _, rfl, lg, dv, lay, od, _, L, st, os, rfl, e5, O, ⟨rd, ok⟩, s4 _ _ hod, hol, fun H5 p5 gs s5 hp5 hgs gl gm => ?_⟩
      have hpa5 := s5 _ _ (show upd H3 pa (.lst []) pa = some (.lst []) from upd_same)
      have npa5 : p5 ≠ pa := fun e => by rw [e, upd_same] at hp5; cases hp5
      have npad : d ≠ pa := fun e => by rw [← e, hd3] at hpa; cases hpa
      refine ⟨p5, rfl, ⟨_, SqL.of hgs⟩, for_it walk_list (fun i σ H' => ∃ (v5 : Option V) (as_ : List Nat), σ = [some (.ref lg), some (.ref od), some (.ref d), v3, some (.ref pa), v5] ∧ Same H H' ∧ H' d = some (.dK kvs) ∧ H' pa = some (.lst (nats as_)) ∧ H' p5 = some (.lst (nats gs)) ∧ as_.length ≤ i * 4000 ∧
          ∀ k v, valV kvs k = some v → ∃ l xs, v = .ref l ∧ l ≠ pa ∧ H' l = some (.lst (nats xs)) ∧ xs.length ≤ 4000)
        ⟨none, [], rfl, sT s4 s5, s5 _ _ (uN hd3 hpa), hpa5, hgs, Nat.zero_le _, fun k v e => by
          obtain ⟨l, xs, r1, r2, r3, r4, r5, r6⟩ := kv k v e
          exact ⟨l, xs, r1, fun z => (by rw [z, hpa] at r5; cases r5), s5 _ _ (uN r5 hpa), by rw [nats_len] at r6; omega⟩⟩ (fun i σ H' _ ⟨_, _, _, _, _, _, e, _⟩ => SqL.of e) ?_ ?_⟩
      · rintro i x σ H6 H7 hlt ⟨v5, as_, rfl, s6, hd6, ha6, hg6, al, av⟩ ⟨rfl, hx⟩
        obtain ⟨g, en, rfl⟩ := nats_get hx
        obtain ⟨a, la, sa⟩ := gm g (List.mem_of_getElem? en)
        obtain ⟨j, hj, ej⟩ := List.mem_iff_getElem.mp ((mem a).mpr la)
        obtain ⟨v, ev⟩ := kg j a g (by rw [nats_len]; exact hj) (by rw [List.getElem?_eq_getElem hj, ej]) sa
        obtain ⟨l, xs, rfl, nl, hl6, xl⟩ := av _ v ev
        have hk : DGet H7 d (.int (g : Int)) (some (.ref l)) := by
          have := DGet.k (k := Sum.inl (g : Int)) hd6
          rw [ev] at this
          exact this
        rw [nats_len] at hlt
        refine ⟨_, rfl, .inl ⟨rfl, _, SqL.of ha6⟩, _, rfl, _, rfl, d, .ref l, rfl, hk, pa, l, _, _, rfl, rfl, ha6, hl6, Nat.le_trans (show (nats as_).length + (nats xs).length ≤ 8100000 by rw [nats_len, nats_len]; omega) (by decide), ?_⟩
        refine ⟨_, as_ ++ xs, rfl, sM s6 (sF s3 hpa), by rw [upd_ne npad]; exact hd6, by rw [upd_same, nats_app], by rw [upd_ne npa5]; exact hg6, by rw [List.length_append]; omega, fun k' v' e' => ?_⟩
        obtain ⟨l', xs', r1, r2, r3, r4⟩ := av k' v' e'
        exact ⟨l', xs', r1, r2, by rw [upd_ne r2]; exact r3, r4⟩
      · rintro σ H6 ⟨v5, as_, rfl, s6, hd6, ha6, hg6, al, av⟩
        refine ⟨_, rfl, _, rfl, lg, _, q.dx, _, _, rfl, s6 _ _ w.h0, T.cG, T.nG_layout, rfl, lay, _, dl, _, _, rfl, s6 _ _ hl, T.cL, T.nL_payload, rfl, _, rfl, pa, _, rfl, SqL.of ha6, fun p hp => ?_⟩
        refine k _ p (as_.take L.pay) (sN s6 hp) (sF s6 hp) ?_ ?_
        · rw [upd_same, cutV_to, nats_take]
        · rw [List.length_take]; have := O.b32; unfold Lay.pay; omega
end

end K30

namespace K30
open PySem PySem.Spec PyProof.Rows L2
/-! ## W29: candidates -/
open K30X
section
variable {P : Program} {w : World} {K : PySem.W.Frag} {mg : Str → Option Value} {base : Heap}
theorem sc_candidates : FnScope ["log", "most", "rows", "segment", "live"] ["log"] (defScope s_candidates) := ⟨rfl, rfl, rfl, by decide +kernel, rfl, by decide +kernel, by decide +kernel⟩
theorem cal_candidates (T : Txt K mg) (F : FD K mg "candidates" s_candidates) (c_live_counts : C8.Cal P w K mg base 2 "live_counts" (sp_live_counts K) []) : C8.Cal P w K mg base 3 "candidates" (sp_candidates K) [] := by
  obtain ⟨f, fd, F, hm⟩ := F
  refine ⟨f, fd, _, _, F.ok sc_candidates (fun vs H Q E h => ?_) (fun cdv A outer s H vs Q E hr h => ?_), hm, F.kp, F.bindsN (fun _ _ _ _ _ _ us hl => match us, hl with | [_], _ => rfl), .nil⟩
  · obtain ⟨_, _, _, _, _, _, rfl, _⟩ := h
    rfl
  · obtain ⟨lg, dv, lay, H0, L, st, rfl, h, O, ⟨rd, ok⟩, k⟩ := h
    obtain ⟨H1, q, w, y⟩ := h.opn
    obtain ⟨dl, hl⟩ := w.hl y
    have s16 := O.s16
    refine ⟨_, PSs.nox (pss_cons (ps_set (i := 1) sc_candidates.nd rfl (Or.inr rfl) (pe_op op_sub (pe_fld (pe_fld (pv 0) rfl) rfl) pe_int))
      (pss_cons (ps_set (i := 2) sc_candidates.nd rfl (Or.inl rfl) (pe_enumO (by rfl) T.b_enumerate (pa_cons (C8.pe_c c_live_counts hr (by decide) (by rfl) (pa_cons (pv 0) pa_nil)) pa_nil)))
      (pss_one (ps_ret (pe_lc (own := [("segment", 3), ("live", 4)])  (by rfl) sc_candidates.nd (pi_env (k := 2) rfl (.inl rfl)) (blkOk_by (N := ["log", "most", "rows", "segment", "live"]) (sc := defScope s_candidates) (by decide +kernel)) (fun _ _ _ _ _ => pg_tupK (K := K) (n := 2) rfl rfl (pgs_cons (pg_name (i := 3) sc_candidates.nd rfl (Or.inl rfl)) (pgs_cons (pg_name (i := 4) sc_candidates.nd rfl (Or.inl rfl)) pgs_nil))) (fun _ _ _ _ _ => (pts_one (PW.pt (pw_and (pt_cmpR (notIn_K (K := K) rfl) (pv 3) (pe_fldK (K := K) rfl (pv 0) rfl) (by rfl)) (pw_and1 (pt_chain op_le op_le pe_int (pv 4) (pv 1))))))) (fun _ _ _ _ _ => (pv 3))))))), ?_⟩
    refine ⟨_, rfl, lg, _, q.dx, _, _, rfl, w.h0, T.cG, T.nG_layout, rfl, lay, _, dl, _, _, rfl, hl, T.cL, T.nL_payload, rfl, _, _, rfl, rfl, ?_⟩
    refine ⟨_, rfl, lg, dv, lay, H0, L, st, rfl, h, O, ⟨rd, ok⟩, fun H2 p cs s2 hp hcs cl cc => ?_⟩
    refine ⟨p, _, rfl, SqL.of hcs, fun e it ne he hit n1 n2 => ?_⟩
    have s3 : Same H2 (upd (upd H2 it (LiO p it)) e (EnO e it)) := sN (sN (sR H2) hit) (by rw [upd_ne ne]; exact he)
    have he2 : upd H2 it (LiO p it) e = Option.none := by rw [upd_ne ne]; exact he
    have ed : ItX.dropH (ItX.dropH (upd (upd H2 it (LiO p it)) e (EnO e it)) e) it = H2 := by rw [ItX.dropH_upd he2, ItX.dropH_upd hit]
    refine ⟨e, it, p, rfl, upd_same, by rw [upd_ne (Ne.symm ne)]; exact upd_same, ne, n1, n2, ?_⟩
    rw [ed]
    refine fun D hD => lc_it walk_enum (fun i H' => Same H2 H' ∧ ∃ gs, H' D = some (.lst (nats gs)) ∧ gs.length ≤ i ∧ ∀ g ∈ gs, ∃ a, Live st.ls a ∧ segOf L a = some g)
      ⟨sN (sR H2) hD, [], upd_same, Nat.le_refl _, fun g hg => by cases hg⟩ (fun i H' _ ⟨s5, _⟩ => SqL.of (s5 _ _ hcs)) ?_ ?_
    · rintro i x H5 H6 hlt ⟨s5, gs, hgs, gl, gm⟩ ⟨T0, a, b, rfl, hT, rfl, ea, eb⟩
      cases ea
      obtain ⟨n, en, rfl⟩ := nats_get eb
      have s7 : Same H2 (upd H5 T0 (.tup [.int (i : Nat), .int (n : Int)])) := sN s5 hT
      have h7 := uN (o := .tup [.int (i : Nat), .int (n : Int)]) hgs hT
      rw [nats_len] at hlt
      refine ⟨T0, _, rfl, SqT.of upd_same, rfl, _, _, rfl, _, _, rfl, rfl, rfl, ?_⟩
      have s8 := sT s2 s7
      refine ⟨_, rfl, _, rfl, lg, _, q.dx, _, _, rfl, s8 _ _ w.h0, T.cG, T.nG_queue, rfl, q.qu, _, rfl, .inl (SqL.of (s8 _ _ w.hq)), rfl, flat_nats, _, rfl, ?_⟩
      have ev : (if true = true then !inV (.int (i : Int)) (nats st.ls.queue) else inV (.int (i : Int)) (nats st.ls.queue)) = !decide (i ∈ st.ls.queue) := by rw [if_pos rfl, inV_nats]
      have no : Same H2 (upd H5 T0 (.tup [.int (i : Nat), .int (n : Int)])) ∧ ∃ gs, upd H5 T0 (.tup [.int (i : Nat), .int (n : Int)]) D = some (.lst (nats gs)) ∧ gs.length ≤ i + 1 ∧ ∀ g ∈ gs, ∃ a, Live st.ls a ∧ segOf L a = some g := ⟨s7, gs, h7, by omega, gm⟩
      have hi : i < cs.length := by omega
      rw [ev]
      by_cases c1 : i ∈ st.ls.queue
      · refine dNF c1 ?_
        refine iteF ?_
        exact no
      · refine dNT c1 ?_
        refine ⟨_, rfl, _, _, rfl, rfl, _, rfl, ?_⟩
        by_cases c2 : (1 : Int) ≤ (n : Int)
        · refine dT c2 ?_
          refine ⟨_, rfl, _, _, rfl, rfl, _, rfl, ?_⟩
          by_cases c3 : (n : Int) ≤ (L.pay : Int) - 1
          · refine dT c3 ?_
            refine ⟨_, rfl, _, h7, sz_lt (by rw [nats_len]; omega), ?_⟩
            refine ⟨sM s7 hD, gs ++ [i], by rw [upd_same, nats_app]; rfl, by rw [List.length_append]; simp; omega, fun g hg => ?_⟩
            rcases List.mem_append.mp hg with z | z
            · exact gm g z
            · rw [List.mem_singleton.mp z]
              refine (cc i).2 ?_
              have e1 : cs.getD i 0 = n := by rw [List.getD, en]; rfl
              omega
          · refine dF c3 ?_
            exact no
        · refine dF c2 ?_
          refine ⟨_, rfl, ?_⟩
          exact iteF no
    · rintro H5 ⟨s5, gs, hgs, gl, gm⟩
      exact k H5 D gs (sT s2 s5) (sF s2 hD) hgs (by rw [nats_len] at gl; omega) gm
end

end K30

namespace K30
open PySem PySem.Spec PyProof.Rows L2
/-! ## W30: policies -/
open K30X
section
variable {P : Program} {w : World} {K : PySem.W.Frag} {mg : Str → Option Value} {base : Heap}
def sp_is_better (K : PySem.W.Frag) : Sp := fun vs H Q _ => ∃ (pol : Str) (pay a1 a2 : Nat) (b1 b2 : Int) (t1 t2 : Addr), vs = [.str pol, .int (pay : Int), .ref t1, .ref t2] ∧ H t1 = some (.tup [.int (a1 : Int), .int b1]) ∧ H t2 = some (.tup [.int (a2 : Int), .int b2]) ∧ pay ≤ 4000 ∧ a1 ≤ 4000 ∧ a2 ≤ 4000 ∧
  ∀ b, Q (.bl b) H
theorem sc_is_better : FnScope ["policy", "payload", "first", "second", "first_gain", "second_gain"] ["policy", "payload", "first", "second"] (defScope s_is_better) := ⟨rfl, rfl, rfl, by decide +kernel, rfl, by decide +kernel, by decide +kernel⟩
theorem cal_is_better (T : Txt K mg) (F : FD K mg "is_better" s_is_better) : C8.Cal P w K mg base 1 "is_better" (sp_is_better K) [] := by
  obtain ⟨f, fd, F, hm⟩ := F
  refine ⟨f, fd, _, _, F.ok sc_is_better (fun vs H Q E h => ?_) (fun cdv A outer s H vs Q E hr h => ?_), hm, F.kp, F.bindsN (fun _ _ _ _ _ _ us hl => match us, hl with | [_, _, _, _], _ => rfl), .nil⟩
  · obtain ⟨_, _, _, _, _, _, _, _, rfl, _⟩ := h
    rfl
  · obtain ⟨pol, pay, a1, a2, b1, b2, t1, t2, rfl, h1, h2, p1, p2, p3, k⟩ := h
    refine ⟨_, PSs.nox (pss_cons (ps_if (pt_cmpR op_eq (pv 0) pe_str (nomark _)) (pss_one (ps_ret (pe_cmpR op_lt (pe_ix ix_tup (pv 2) pe_int (fun _ _ => rfl)) (pe_ix ix_tup (pv 3) pe_int (fun _ _ => rfl)) (nomark _)))) pss_nil)
      (pss_cons (ps_if (pt_cmpR op_eq (pv 0) pe_str (nomark _)) (pss_one (ps_ret (pe_cmpR op_gt (pe_ix ix_tup (pv 2) pe_int (fun _ _ => rfl)) (pe_ix ix_tup (pv 3) pe_int (fun _ _ => rfl)) (nomark _)))) pss_nil)
      (pss_cons (ps_set (i := 4) sc_is_better.nd rfl (Or.inl rfl) (pe_op op_mul (pe_op op_mul (pe_op op_sub (pv 1) (pe_ix ix_tup (pv 2) pe_int (fun _ _ => rfl))) (pe_ix ix_tup (pv 2) pe_int (fun _ _ => rfl))) (pe_op op_add (pv 1) (pe_ix ix_tup (pv 3) pe_int (fun _ _ => rfl)))))
      (pss_cons (ps_set (i := 5) sc_is_better.nd rfl (Or.inl rfl) (pe_op op_mul (pe_op op_mul (pe_op op_sub (pv 1) (pe_ix ix_tup (pv 3) pe_int (fun _ _ => rfl))) (pe_ix ix_tup (pv 3) pe_int (fun _ _ => rfl))) (pe_op op_add (pv 1) (pe_ix ix_tup (pv 2) pe_int (fun _ _ => rfl)))))
      (pss_one (ps_ret (pe_cmpR op_gt (pv 4) (pv 5) (nomark _)))))))), ?_⟩
    refine ⟨_, rfl, rfl, _, rfl, ?_⟩
    by_cases c1 : V.str pol = V.str "greedy"
    · refine dT c1 ?_
      exact ⟨_, rfl, t1, _, _, _, rfl, rfl, SqT.of h1, atI_nat (j := 0) rfl, _, rfl, t2, _, _, _, rfl, rfl, SqT.of h2, atI_nat (j := 0) rfl, _, _, rfl, rfl, k _⟩
    refine dF c1 ?_
    refine ⟨_, rfl, rfl, _, rfl, ?_⟩
    by_cases c2 : V.str pol = V.str "oldest"
    · refine dT c2 ?_
      exact ⟨_, rfl, t1, _, _, _, rfl, rfl, SqT.of h1, atI_nat (j := 1) rfl, _, rfl, t2, _, _, _, rfl, rfl, SqT.of h2, atI_nat (j := 1) rfl, _, _, rfl, rfl, k _⟩
    refine dF c2 ?_
    refine ⟨_, rfl, _, rfl, t1, _, _, _, rfl, rfl, SqT.of h1, atI_nat (j := 0) rfl, _, _, rfl, rfl, _, rfl, t1, _, _, _, rfl, rfl, SqT.of h1, atI_nat (j := 1) rfl, _, _, rfl, rfl, .inl ⟨by omega, by omega⟩, _, rfl, _, rfl, t2, _, _, _, rfl, rfl, SqT.of h2, atI_nat (j := 0) rfl, _, _, rfl, rfl, _, _, rfl, rfl, .inr ⟨by omega, by omega⟩, _, rfl, _, rfl, t2, _, _, _, rfl, rfl, SqT.of h2, atI_nat (j := 0) rfl, _, _, rfl, rfl, _, rfl, t2, _, _, _, rfl, rfl, SqT.of h2, atI_nat (j := 1) rfl, _, _, rfl, rfl, .inl ⟨by omega, by omega⟩, _, rfl, _, rfl, t1, _, _, _, rfl, rfl, SqT.of h1, atI_nat (j := 0) rfl, _, _, rfl, rfl, _, _, rfl, rfl, .inr ⟨by omega, by omega⟩, ?_⟩
    exact ⟨_, rfl, _, rfl, _, _, rfl, rfl, k _⟩
end

end K30

namespace K30
open PySem PySem.Spec PyProof.Rows L2
/-! ## W31: the order of candidates -/
open K30X
section
variable {P : Program} {w : World} {K : PySem.W.Frag} {mg : Str → Option Value} {base : Heap}
def sp_order_candidates (K : PySem.W.Frag) : Sp := fun vs H Q _ => ∃ (lg dv lay : Addr) (H0 : Hp) (L : Lay) (st : St) (pol : Str), vs = [.ref lg, .str pol] ∧ LogO K H0 H lg dv lay L st ∧ L.Ok ∧ (∃ rd, LOK L rd st.ls) ∧
  ∀ H' p os, Same H H' → H p = Option.none → H' p = some (.lst (nats os)) → os.length ≤ 1000 → Q (.ref p) H'
theorem refs_at {ts : List Addr} {i : Nat} {t : Addr} (h : ts[i]? = some t) : (ts.map V.ref)[i]? = some (.ref t) := by rw [List.getElem?_map, h]; rfl
theorem sc_order_candidates : FnScope ["log", "policy", "rows", "order", "segment", "at"] ["log", "policy"] (defScope s_order_candidates) := ⟨rfl, rfl, rfl, by decide +kernel, rfl, by decide +kernel, by decide +kernel⟩
theorem cal_order_candidates (T : Txt K mg) (F : FD K mg "order_candidates" s_order_candidates) (c_live_counts : C8.Cal P w K mg base 2 "live_counts" (sp_live_counts K) []) (c_ages : C8.Cal P w K mg base 2 "ages" (sp_ages K) []) (c_candidates : C8.Cal P w K mg base 3 "candidates" (sp_candidates K) []) (c_is_better : C8.Cal P w K mg base 1 "is_better" (sp_is_better K) []) : C8.Cal P w K mg base 4 "order_candidates" (sp_order_candidates K) [] := by
  obtain ⟨f, fd, F, hm⟩ := F
  refine ⟨f, fd, _, _, F.ok sc_order_candidates (fun vs H Q E h => ?_) (fun cdv A outer s H vs Q E hr h => ?_), hm, F.kp, F.bindsN (fun _ _ _ _ _ _ us hl => match us, hl with | [_, _], _ => rfl), .nil⟩
  · obtain ⟨_, _, _, _, _, _, _, rfl, _⟩ := h
    rfl
  · obtain ⟨lg, dv, lay, H0, L, st, pol, rfl, h, O, ⟨rd, ok⟩, k⟩ := h
    obtain ⟨H1, q, w, y⟩ := h.opn
    obtain ⟨dl, hl⟩ := w.hl y
    have s16 := O.s16
    have s4 := O.s4
    have b32 := O.b32
    refine ⟨_, PSs.nox (pss_cons (ps_set (i := 2) sc_order_candidates.nd rfl (Or.inl rfl) (pe_listZip rfl (by rfl) T.b_list (by rfl) T.b_zip (pa_cons (C8.pe_c c_live_counts hr (by decide) (by rfl) (pa_cons (pv 0) pa_nil)) (pa_cons (C8.pe_c c_ages hr (by decide) (by rfl) (pa_cons (pv 0) pa_nil)) pa_nil))))
      (pss_cons (ps_set (i := 3) sc_order_candidates.nd rfl (Or.inl rfl) (pe_lst pa_nil))
      (pss_cons (ps_for PassesOwn.never rfl (pi_list (C8.pe_c c_candidates hr (by decide) (by rfl) (pa_cons (pv 0) pa_nil))) (pg_name (i := 4) sc_order_candidates.nd rfl (Or.inl rfl)) (pss_cons (ps_set (i := 5) sc_order_candidates.nd rfl (Or.inl rfl) (pe_callB call_len_seq (by rfl) T.b_len PySem.boot_len (pa_cons (pv 3) pa_nil)))
      (pss_cons (ps_while PassesOwn.never (PW.pt (pw_and (pt_cmpR op_gt (pv 5) pe_int (nomark _)) (pw_and1 (pt_val (C8.pe_c c_is_better hr (by decide) (by rfl) (pa_cons (pv 1) (pa_cons (pe_fld (pe_fld (pv 0) rfl) rfl) (pa_cons (pe_ix ix_list (pv 2) (pv 4) (fun _ _ => rfl)) (pa_cons (pe_ix ix_list (pv 2) (pe_ix ix_list (pv 3) (pe_op op_sub (pv 5) pe_int) (fun _ _ => rfl)) (fun _ _ => rfl)) pa_nil))))))))) (pss_one (ps_set (i := 5) sc_order_candidates.nd rfl (Or.inl rfl) (pe_op op_sub (pv 5) pe_int))))
      (pss_one (ps_expr (pe_bm PySem.F.plainAttrs_list PySem.F.slot_list_insert PySem.F.type_list_insert mt_insert (pv 3) (pa_cons (pv 5) (pa_cons (pv 4) pa_nil))))))))
      (pss_one (ps_ret (pv 3)))))), ?_⟩
    refine ⟨_, rfl, lg, dv, lay, H0, L, st, rfl, h, O, ⟨rd, ok⟩, fun H2 pc cs s2 hpc hcs cl cc => ?_⟩
    refine ⟨_, rfl, lg, dv, lay, _, L, st, rfl, h.ext s2, O, fun H3 pz zs s3 hpz hzs zl => ?_⟩
    have s03 := sT s2 s3
    refine ⟨pc, pz, _, _, rfl, SqL.of (s3 _ _ hcs), SqL.of hzs, by rw [nats_len, List.length_map]; omega, by rw [nats_len]; exact sz_ok (by omega), fun ts tl nd tn pr prn hpr => ?_⟩
    rw [nats_len] at tl
    have tr : ∀ j (hj : j < cs.length) (hz : j < zs.length), ∃ t, ts[j]? = some t ∧ trk ts (nats cs) (zs.map V.int) H3 t = some (.tup [.int (cs[j] : Int), .int zs[j]]) := fun j hj hz => by
      have e : ts[j]? = some ts[j] := List.getElem?_eq_getElem (by omega)
      exact ⟨_, e, trk_get nd e (nats_at hj) (by rw [List.getElem?_map, List.getElem?_eq_getElem hz]; rfl)⟩
    have s4t : Same H3 (trk ts (nats cs) (zs.map V.int) H3) := fun b o e => by
      rw [trk_ne fun z => by rw [tn b z] at e; cases e]; exact e
    have hpr4 : trk ts (nats cs) (zs.map V.int) H3 pr = Option.none := by rw [trk_ne prn]; exact hpr
    have s45 := sN (o := .lst (ts.map V.ref)) s4t hpr4
    have s05 := sT s03 s45
    refine ⟨Nat.zero_le _, fun po hpo => ?_⟩
    have s06 := sN (o := .lst []) s05 hpo
    have hrows : ∀ {H' : Hp}, Same H H' → True := fun _ => trivial
    refine ⟨_, rfl, lg, dv, lay, _, L, st, rfl, h.ext s06, O, ⟨rd, ok⟩, fun H7 pg gs s7 hpg hgs gl gm => ?_⟩
    have s07 := sT s06 s7
    have npo : pg ≠ po := fun e => by rw [e, upd_same] at hpg; cases hpg
    have hpo0 : H po = Option.none := sF s05 hpo
    have base : Same (upd (trk ts (nats cs) (zs.map V.int) H3) pr (.lst (ts.map V.ref))) H7 := sT (sN (sR _) hpo) s7
    refine ⟨pg, rfl, ⟨_, SqL.of hgs⟩, for_it walk_list (fun i σ H' => ∃ (v4 v5 : Option V) (os : List Nat), σ = [some (.ref lg), some (.str pol), some (.ref pr), some (.ref po), v4, v5] ∧ Same (upd (trk ts (nats cs) (zs.map V.int) H3) pr (.lst (ts.map V.ref))) H' ∧ Same H H' ∧ H' pg = some (.lst (nats gs)) ∧ H' po = some (.lst (nats os)) ∧ os.length ≤ i ∧ ∀ g ∈ os, g < L.segs)
      ⟨none, none, [], rfl, base, s07, hgs, s7 _ _ upd_same, Nat.le_refl _, fun g hg => by cases hg⟩ (fun i σ H' _ ⟨_, _, _, _, _, _, e, _⟩ => SqL.of e) ?_ ?_⟩
    · rintro i x σ H8 H9 hlt ⟨v4, v5, os, rfl, sb, s8, hg8, ho8, ol, om⟩ ⟨rfl, hx⟩
      obtain ⟨g, en, rfl⟩ := nats_get hx
      rw [nats_len] at hlt
      obtain ⟨a, la, sa⟩ := gm g (List.mem_of_getElem? en)
      obtain ⟨g', pp, ea, hg', _, hpp, _, _⟩ := ok.lv a la
      have hgl : g < L.segs := by
        rw [ea, segOf_ad hg' hpp] at sa
        cases sa
        exact hg'
      have prr : H9 pr = some (.lst (ts.map V.ref)) := sb _ _ upd_same
      have trow : ∀ j, j < L.segs → ∃ (t : Addr) (c : Nat) (z : Int), ts[j]? = some t ∧ c ≤ 4000 ∧ H9 t = some (.tup [.int (c : Int), .int z]) := fun j hj => by
        obtain ⟨t, e1, e2⟩ := tr j (by omega) (by omega)
        have nt : t ≠ pr := fun z => prn (by rw [← z]; exact List.mem_of_getElem? e1)
        refine ⟨t, _, _, e1, ?_, sb _ _ (by rw [upd_ne nt]; exact e2)⟩
        have := (cc j).1
        rw [getD_lt (by omega)] at this
        exact this
      refine ⟨_, rfl, po, _, rfl, .inl (SqL.of ho8), ?_⟩
      refine ⟨fun m σ H' => H' = H9 ∧ m ≤ os.length ∧ σ = [some (.ref lg), some (.str pol), some (.ref pr), some (.ref po), some (.int (g : Int)), some (.int (m : Int))], ⟨os.length, rfl, Nat.le_refl _, by rw [nats_len]; rfl⟩, ?_⟩
      rintro m σ H' ⟨rfl, hm, rfl⟩
      have fin : ∀ (Hn : Hp), Hn = upd H' po (.lst (((nats os).take ((m : Int)).toNat) ++ [V.int (g : Int)] ++ ((nats os).drop ((m : Int)).toNat))) → ∃ (v4 v5 : Option V) (os' : List Nat), ([some (.ref lg), some (.str pol), some (.ref pr), some (.ref po), some (.int (g : Int)), some (.int (m : Int))] : List (Option V)) = [some (.ref lg), some (.str pol), some (.ref pr), some (.ref po), v4, v5] ∧ Same (upd (trk ts (nats cs) (zs.map V.int) H3) pr (.lst (ts.map V.ref))) Hn ∧ Same H Hn ∧ Hn pg = some (.lst (nats gs)) ∧ Hn po = some (.lst (nats os')) ∧ os'.length ≤ i + 1 ∧ ∀ g ∈ os', g < L.segs := by
        rintro Hn rfl
        refine ⟨_, _, os.take m ++ [g] ++ os.drop m, rfl, sM sb hpo, sM s8 hpo0, by rw [upd_ne npo]; exact hg8, ?_, ?_, fun z hz => ?_⟩
        · rw [upd_same, nats_app, nats_app, ← nats_take, ← nats_drop]; rfl
        · have : (os.take m ++ [g] ++ os.drop m).length = os.length + 1 := by simp; omega
          omega
        · rcases List.mem_append.mp hz with hz | hz
          · rcases List.mem_append.mp hz with hz | hz
            · exact om z (List.mem_of_mem_take hz)
            · rw [List.mem_singleton.mp hz]; exact hgl
          · exact om z (List.mem_of_mem_drop hz)
      have out : ∀ Q' : Prop, (Q' → Q') := fun _ z => z
      have ins : os.length < sizeLine := Nat.lt_of_le_of_lt (show os.length ≤ 100 by omega) (by decide)
      refine ⟨_, rfl, _, _, rfl, rfl, _, rfl, ?_⟩
      by_cases c1 : (0 : Int) < (m : Int)
      · refine dT c1 ?_
        have hm1 : m - 1 < os.length := by omega
        have ho1 : os[m - 1] < L.segs := om _ (List.getElem_mem hm1)
        obtain ⟨t1, n1, z1, f1, g1, i1⟩ := trow g hgl
        obtain ⟨t2, n2, z2, f2, g2, i2⟩ := trow os[m - 1] ho1
        have em : ((m : Int) - 1) = ((m - 1 : Nat) : Int) := by omega
        have hat : atI (nats os) ((m : Int) - 1) = some (V.int (os[m - 1] : Int)) := by rw [em]; exact atI_nat (j := m - 1) (nats_at hm1)
        refine ⟨_, rfl, _, rfl, lg, _, q.dx, _, _, rfl, s8 _ _ w.h0, T.cG, T.nG_layout, rfl, lay, _, dl, _, _, rfl, s8 _ _ hl, T.cL, T.nL_payload, rfl, _, rfl, _, rfl, pr, _, _, _, rfl, rfl, SqL.of prr, atI_nat (j := g) (refs_at f1), _, rfl, _, rfl, _, rfl, _, _, rfl, rfl, po, _, _, _, rfl, rfl, SqL.of ho8, hat,
          pr, _, _, _, rfl, rfl, SqL.of prr, atI_nat (j := os[m - 1]) (refs_at f2), pol, L.pay, n1, n2, z1, z2, t1, t2, rfl, i1, i2, by unfold Lay.pay; omega, g1, g2, fun b => ?_⟩
        refine ⟨b, rfl, ?_⟩
        cases b with
        | true =>
          refine iteT ?_
          refine ⟨fun σ' Hn => Hn = H' ∧ σ' = [some (.ref lg), some (.str pol), some (.ref pr), some (.ref po), some (.int (g : Int)), some (.int ((m - 1 : Nat) : Int))], fun σ' Hn ⟨e1, e2⟩ => ⟨m - 1, by omega, e1, by omega, e2⟩, ?_⟩
          refine ⟨_, rfl, _, _, rfl, rfl, ?_⟩
          refine ⟨rfl, ?_⟩
          show [some (.ref lg), some (.str pol), some (.ref pr), some (.ref po), some (.int (g : Int)), some (V.int ((m : Int) - 1))] = _
          rw [em]
        | false =>
          refine iteF ?_
          exact ⟨_, rfl, .inl ⟨rfl, _, SqL.of ho8⟩, _, rfl, _, rfl, po, _, _, _, rfl, rfl, ho8, by rw [nats_len]; exact ins, by omega, by omega, fin _ rfl⟩
      · refine dF c1 ?_
        refine iteF ?_
        exact ⟨_, rfl, .inl ⟨rfl, _, SqL.of ho8⟩, _, rfl, _, rfl, po, _, _, _, rfl, rfl, ho8, by rw [nats_len]; exact ins, by omega, by omega, fin _ rfl⟩
    · rintro σ H8 ⟨v4, v5, os, rfl, sb, s8, hg8, ho8, ol, om⟩
      exact ⟨_, rfl, k H8 po os s8 hpo0 ho8 (by rw [nats_len] at ol; omega)⟩
end

end K30

namespace K30
open PySem PySem.Spec PyProof.Rows L2
/-! ## W32: making room, cleaning -/
open K30X
theorem SI.chk {L : Lay} {st : St} {A : AS} {S : AS → Prop} (h : SI L st A S) : st.Chk L := ⟨h.ok.ls, h.ok.lu, h.ok.lw, ⟨_, h.ok.ok⟩, h.ok.rg⟩
theorem SI.fit {L : Lay} (O : L.Ok) {st : St} {A : AS} {S : AS → Prop} (h : SI L st A S) (w : Wb st 70000) : st.Fit L := ⟨h.ok.ok.sm O, h.ok.ls, h.ok.ok.hr, h.ok.ok.pl, fun z => by have := w z; omega⟩
theorem SI.moves {L : Lay} (O : L.Ok) {st : St} {A : AS} {S : AS → Prop} (h : SI L st A S) : ∀ as st', appendMove L st as = some st' → st'.Chk L := fun as st' e => (move_ok O h e).chk
theorem Fills.snoc {L : Lay} {a b : St} (h : Fills L a b) : ∀ {c : St} {x : Bool}, Fill L b c x → Fills L a c := by
  induction h with
  | nil => exact fun f => .cons f (.nil _)
  | cons f _ ih => exact fun g => .cons f (ih g)
section
variable {P : Program} {w : World} {K : PySem.W.Frag} {mg : Str → Option Value} {base : Heap}
def sp_make_room (K : PySem.W.Frag) : Sp := fun vs H Q _ => ∃ (lg dv lay : Addr) (H0 : Hp) (L : Lay) (st : St) (c : Nat) (pol : Str) (A : AS) (S : AS → Prop), vs = [.ref lg, .int (c : Int), .str pol] ∧ LogO K H0 H lg dv lay L st ∧ L.Ok ∧ SI L st A S ∧ Wb st 70000 ∧
  ∀ H' st' b, Room L st st' → LogO K H0 H' lg dv lay L st' → Q (.bl b) H'
theorem sc_make_room : FnScope ["log", "count", "policy", "_"] ["log", "count", "policy"] (defScope s_make_room) := ⟨rfl, rfl, rfl, by decide +kernel, rfl, by decide +kernel, by decide +kernel⟩
theorem cal_make_room (T : Txt K mg) (F : FDK K mg "make_room" s_make_room [("policy", .str "greedy")]) (c_has_room : C8.Cal P w K mg base 3 "has_room" (sp_has_room K) []) (c_write_checkpoint : C8.Cal P w K mg base 3 "write_checkpoint" (sp_write_checkpoint K) []) (c_fill : C8.Cal P w K mg base 6 "fill" (sp_fill K) []) (c_order_candidates : C8.Cal P w K mg base 4 "order_candidates" (sp_order_candidates K) []) : C8.Cal P w K mg base 7 "make_room" (sp_make_room K) (List.map Prod.snd ([("policy", .str "greedy")] : List (Str × V))) := by
  obtain ⟨f, fd, F, hm⟩ := F
  obtain ⟨ds, hds, hb⟩ := F.binds0 (ps := ["log", "count", "policy"]) 2 (by simp) rfl (fun D doc pm an cdv ct us ks h1 h2 => match us, ks, h1, h2 with | [_, _], [_], _, _ => ⟨_, _, _, _, _, _, rfl, rfl, rfl⟩)
  refine ⟨f, fd, _, ds, F.ok sc_make_room (fun vs H Q E h => ?_) (fun cdv A outer s H vs Q E hr h => ?_), hm, F.kp, hb, hds⟩
  · obtain ⟨_, _, _, _, _, _, _, _, _, _, rfl, _⟩ := h
    rfl
  · obtain ⟨lg, dv, lay, H0, L, st, c, pol, A0, S, rfl, h, O, si, wb, k⟩ := h
    obtain ⟨H1, q, w, y⟩ := h.opn
    obtain ⟨dl, hl⟩ := w.hl y
    have s16 := O.s16
    refine ⟨_, PSs.nox (pss_cons (ps_if (pt_val (C8.pe_c c_has_room hr (by decide) (by rfl) (pa_cons (pv 0) (pa_cons (pv 1) pa_nil)))) (pss_one (ps_ret pe_bl)) pss_nil)
      (pss_cons (ps_expr (C8.pe_c c_write_checkpoint hr (by decide) (by rfl) (pa_cons (pv 0) pa_nil)))
      (C8.pss_cut (ps_for PassesOwn.never rfl (pi_range1 rfl T.b_range (pa_cons (pe_fld (pe_fld (pv 0) rfl) rfl) pa_nil)) (pg_name (i := 3) sc_make_room.nd rfl (Or.inl rfl)) (pss_one (ps_if (PW.pt (pw_or (pt_val (C8.pe_c c_has_room hr (by decide) (by rfl) (pa_cons (pv 0) (pa_cons (pv 1) pa_nil)))) (pw_or1 (pt_not (pt_val (C8.pe_c c_fill hr (by decide) (by rfl) (pa_cons (pv 0) (pa_cons (C8.pe_c c_order_candidates hr (by decide) (by rfl) (pa_cons (pv 0) (pa_cons (pv 2) pa_nil))) pa_nil)))))))) (pss_one ps_break) pss_nil)))
      (pss_one (ps_ret (C8.pe_c c_has_room hr (by decide) (by rfl) (pa_cons (pv 0) (pa_cons (pv 1) pa_nil)))))))), ?_⟩
    refine ⟨_, rfl, _, rfl, lg, dv, lay, H0, L, st, c, rfl, h, O, ⟨_, si.ok.ok⟩, fun H2 b s2 => ⟨_, rfl, ?_⟩⟩
    have h2 : LogO K H0 H2 lg dv lay L st := (h.ext s2).shrink (ext_same h.frame) y
    cases b with
    | true =>
      refine iteT ?_
      exact k _ st true (.inl rfl) h2
    | false =>
      refine iteF ?_
      refine ⟨_, rfl, lg, dv, lay, H0, L, st, rfl, h2, O, si.chk, fun H3 fr nf h3 => ?_⟩
      have tg := ck_tight O si nf
      refine ⟨fun σ H' => ∃ (v3 : Option V) (st' : St), σ = [some (.ref lg), some (.int (c : Int)), some (.str pol), v3] ∧ Fills L (checkpoint L fr st) st' ∧ LogO K H0 H' lg dv lay L st', ?_, ?_⟩
      · obtain ⟨H1', q3, w3, y3⟩ := h3.opn
        obtain ⟨dl3, hl3⟩ := w3.hl y3
        refine ⟨_, rfl, lg, _, q3.dx, _, _, rfl, w3.h0, T.cG, T.nG_layout, rfl, lay, _, dl3, _, _, rfl, hl3, T.cL, T.nL_segments, rfl, _, rfl, by omega, by omega, for_it walk_range (fun i σ H' => ∃ (v3 : Option V) (st' : St), σ = [some (.ref lg), some (.int (c : Int)), some (.str pol), v3] ∧ Fills L (checkpoint L fr st) st' ∧ LogO K H0 H' lg dv lay L st')
          ⟨none, _, rfl, .nil _, h3⟩ (fun _ _ _ _ _ => trivial) ?_ (fun σ H' p => p)⟩
        rintro i x σ H4 H5 hlt ⟨v3, st', rfl, fl, h4⟩ ⟨rfl, rfl⟩
        have t4 := fills_tight O tg fl
        have w4 := (wd_fills fl (wb_ck (L := L) (fr := fr) (st := st))).1
        refine ⟨_, rfl, _, rfl, lg, dv, lay, H0, L, st', c, rfl, h4, O, ⟨_, t4.1.ok.ok⟩, fun H6 b s6 => ⟨_, rfl, ?_⟩⟩
        have h6 : LogO K H0 H6 lg dv lay L st' := (h4.ext s6).shrink (ext_same h4.frame) y
        cases b with
        | true =>
          refine iteT ?_
          refine iteT ?_
          exact ⟨_, st', rfl, fl, h6⟩
        | false =>
          refine iteF ?_
          refine ⟨_, rfl, _, rfl, _, rfl, lg, dv, lay, H0, L, st', pol, rfl, h6, O, ⟨_, t4.1.ok.ok⟩, fun H7 po os s7 hpo hos hol => ?_⟩
          refine ⟨lg, dv, lay, po, _, L, st', os, rfl, (h6.ext s7).shrink (ext_same h6.frame) y, O, t4.1.fit O (w4.mono (Nat.zero_le _)), t4.1.chk, t4.1.ok.ws, t4.1.moves O, hos, by omega, fun H8 st8 b ff h8 => ⟨_, rfl, ?_⟩⟩
          cases b with
          | true =>
            refine iteF ?_
            exact ⟨_, st8, rfl, fl.snoc ff, h8⟩
          | false =>
            refine iteT ?_
            exact ⟨_, st8, rfl, fl.snoc ff, h8⟩
      · rintro σ H4 ⟨v3, st', rfl, fl, h4⟩
        have t4 := fills_tight O tg fl
        refine ⟨_, rfl, _, rfl, lg, dv, lay, H0, L, st', c, rfl, h4, O, ⟨_, t4.1.ok.ok⟩, fun H6 b s6 => ?_⟩
        exact k _ st' b (.inr ⟨fr, nf, fl⟩) ((h4.ext s6).shrink (ext_same h4.frame) y)
def sp_clean_log (K : PySem.W.Frag) : Sp := fun vs H Q _ => ∃ (lg dv lay : Addr) (H0 : Hp) (L : Lay) (st : St) (c : Nat) (pol : Str) (A : AS) (S : AS → Prop), vs = [.ref lg, .int (c : Int), .str pol] ∧ LogO K H0 H lg dv lay L st ∧ L.Ok ∧ SI L st A S ∧ c ≤ 1000 ∧
  ∀ H' st' fr n, NewFree L st.ls fr → Fills L (checkpoint L fr st) st' → LogO K H0 H' lg dv lay L st' → Q (.int n) H'
theorem sc_clean_log : FnScope ["log", "passes", "policy", "_"] ["log", "passes", "policy"] (defScope s_clean_log) := ⟨rfl, rfl, rfl, by decide +kernel, rfl, by decide +kernel, by decide +kernel⟩
theorem calk_clean_log {v_policy : V} (T : Txt K mg) (F : FDK K mg "clean_log" s_clean_log [("policy", v_policy)]) (c_candidates : C8.Cal P w K mg base 3 "candidates" (sp_candidates K) []) (c_write_checkpoint : C8.Cal P w K mg base 3 "write_checkpoint" (sp_write_checkpoint K) []) (c_fill : C8.Cal P w K mg base 6 "fill" (sp_fill K) []) (c_order_candidates : C8.Cal P w K mg base 4 "order_candidates" (sp_order_candidates K) []) : CalK P w K mg base 7 "clean_log" (sp_clean_log K) 2 ["policy"] := by
  obtain ⟨f, fd, F, hm⟩ := F
  obtain ⟨mv, hb⟩ := F.kbinds0 (ps := ["log", "passes", "policy"]) 2 ["policy"] [] (fun vs mz zs => vs ++ zs) (by simp) (fun q hq => by cases hq) (fun r _ rz => Vals.append r rz) (fun D doc pm an cdv ct us mv ws h1 h2 h3 => match us, mv, ws, h1, h2, h3 with | [_, _], [], [_], _, _, _ => rfl)
  refine ⟨f, fd, _, F.ok sc_clean_log (fun vs H Q E h => ?_) (fun cdv A outer s H vs Q E hr h => ?_), hm, F.kp, hb⟩
  · obtain ⟨_, _, _, _, _, _, _, _, _, _, rfl, _⟩ := h
    rfl
  · obtain ⟨lg, dv, lay, H0, L, st, c, pol, A0, S, rfl, h, O, si, hc, k⟩ := h
    obtain ⟨H1, q, w, y⟩ := h.opn
    refine ⟨_, PSs.nox (pss_cons (ps_expr (C8.pe_c c_write_checkpoint hr (by decide) (by rfl) (pa_cons (pv 0) pa_nil)))
      (C8.pss_cut (ps_for PassesOwn.never rfl (pi_range1 rfl T.b_range (pa_cons (pv 1) pa_nil)) (pg_name (i := 3) sc_clean_log.nd rfl (Or.inl rfl)) (pss_one (ps_if (PW.pt (pw_or (pt_cmpR op_lt (pe_callB call_len_seq (by rfl) T.b_len PySem.boot_len (pa_cons (C8.pe_c c_candidates hr (by decide) (by rfl) (pa_cons (pv 0) pa_nil)) pa_nil)) pe_int (nomark _)) (pw_or1 (pt_not (pt_val (C8.pe_c c_fill hr (by decide) (by rfl) (pa_cons (pv 0) (pa_cons (C8.pe_c c_order_candidates hr (by decide) (by rfl) (pa_cons (pv 0) (pa_cons (pv 2) pa_nil))) pa_nil)))))))) (pss_one ps_break) pss_nil)))
      (pss_one (ps_ret (pe_callB call_len_seq (by rfl) T.b_len PySem.boot_len (pa_cons (pe_fld (pv 0) rfl) pa_nil)))))), ?_⟩
    refine ⟨_, rfl, lg, dv, lay, H0, L, st, rfl, h, O, si.chk, fun H3 fr nf h3 => ?_⟩
    have tg := ck_tight O si nf
    refine ⟨fun σ H' => ∃ (v3 : Option V) (st' : St), σ = [some (.ref lg), some (.int (c : Int)), some (.str pol), v3] ∧ Fills L (checkpoint L fr st) st' ∧ LogO K H0 H' lg dv lay L st', ?_, ?_⟩
    · refine ⟨_, rfl, _, rfl, by omega, by omega, for_it walk_range (fun i σ H' => ∃ (v3 : Option V) (st' : St), σ = [some (.ref lg), some (.int (c : Int)), some (.str pol), v3] ∧ Fills L (checkpoint L fr st) st' ∧ LogO K H0 H' lg dv lay L st')
          ⟨none, _, rfl, .nil _, h3⟩ (fun _ _ _ _ _ => trivial) ?_ (fun σ H' p => p)⟩
      rintro i x σ H4 H5 hlt ⟨v3, st', rfl, fl, h4⟩ ⟨rfl, rfl⟩
      have t4 := fills_tight O tg fl
      have w4 := (wd_fills fl (wb_ck (L := L) (fr := fr) (st := st))).1
      refine ⟨_, rfl, lg, dv, lay, H0, L, st', rfl, h4, O, ⟨_, t4.1.ok.ok⟩, fun H6 pg gs s6 hpg hgs _ _ => ?_⟩
      have h6 : LogO K H0 H6 lg dv lay L st' := (h4.ext s6).shrink (ext_same h4.frame) y
      refine ⟨pg, _, rfl, .inl (SqL.of hgs), _, _, rfl, rfl, _, rfl, ?_⟩
      by_cases c1 : ((nats gs).length : Int) < 2
      · refine dT c1 ?_
        refine iteT ?_
        exact ⟨_, st', rfl, fl, h6⟩
      · refine dF c1 ?_
        refine ⟨_, rfl, _, rfl, _, rfl, lg, dv, lay, H0, L, st', pol, rfl, h6, O, ⟨_, t4.1.ok.ok⟩, fun H7 po os s7 hpo hos hol => ?_⟩
        refine ⟨lg, dv, lay, po, _, L, st', os, rfl, (h6.ext s7).shrink (ext_same h6.frame) y, O, t4.1.fit O (w4.mono (Nat.zero_le _)), t4.1.chk, t4.1.ok.ws, t4.1.moves O, hos, by omega, fun H8 st8 b ff h8 => ⟨_, rfl, ?_⟩⟩
        cases b with
        | true =>
          refine iteF ?_
          exact ⟨_, st8, rfl, fl.snoc ff, h8⟩
        | false =>
          refine iteT ?_
          exact ⟨_, st8, rfl, fl.snoc ff, h8⟩
    · rintro σ H4 ⟨v3, st', rfl, fl, h4⟩
      obtain ⟨H5, q5, w5, y5⟩ := h4.opn
      exact ⟨_, rfl, lg, _, q5.dx, _, _, rfl, w5.h0, T.cG, T.nG_queue, rfl, q5.qu, _, rfl, .inl (SqL.of w5.hq), k _ st' fr _ nf fl h4⟩
end

end K30

namespace K30
open PySem PySem.Spec PyProof.Rows L2
/-! ## W33: rows, digits -/
open K30X
theorem SqL.same {K : PySem.W.Frag} {H H' : Hp} {a : Addr} {xs : List V} (h : SqL K H a xs) (s : Same H H') : SqL K H' a xs := by
  rcases h with h | h
  · rcases h with h | ⟨o, h⟩
    · exact .inl (.inl (s _ _ h))
    · exact .inl (.inr ⟨o, s _ _ h⟩)
  · exact .inr h
section
variable {P : Program} {w : World} {K : PySem.W.Frag} {mg : Str → Option Value} {base : Heap}
def sp__law_row (K : PySem.W.Frag) : Sp := fun vs H Q _ => ∃ (s : Addr) (xs : List Int) (k : Nat), vs = [.ref s, .int (k : Int)] ∧ SqL K H s (xs.map V.int) ∧ xs.length ≤ 63 ∧ ∀ r : Nat, Q (.int (r : Int)) H
theorem sc__law_row : FnScope ["_law_script", "_law_k", "_law_cell", "_law_first", "_law_second"] ["_law_script", "_law_k"] (defScope s__law_row) := ⟨rfl, rfl, rfl, by decide +kernel, rfl, by decide +kernel, by decide +kernel⟩
theorem cal__law_row (T : Txt K mg) (F : FD K mg "_law_row" s__law_row) : C8.Cal P w K mg base 1 "_law_row" (sp__law_row K) [] := by
  obtain ⟨f, fd, F, hm⟩ := F
  refine ⟨f, fd, _, _, F.ok sc__law_row (fun vs H Q E h => ?_) (fun cdv A outer s H vs Q E hr h => ?_), hm, F.kp, F.bindsN (fun _ _ _ _ _ _ us hl => match us, hl with | [_, _], _ => rfl), .nil⟩
  · obtain ⟨_, _, _, rfl, _⟩ := h
    rfl
  · obtain ⟨z, xs, k, rfl, hs, hl, kk⟩ := h
    refine ⟨_, PSs.nox (pss_cons (ps_set (i := 2) sc__law_row.nd rfl (Or.inl rfl) pe_int)
      (C8.pss_cut (ps_if (pt_cmpR op_gt (pe_callB call_len_seq (by rfl) T.b_len PySem.boot_len (pa_cons (pv 0) pa_nil)) pe_int (nomark _)) (pss_one (ps_set (i := 2) sc__law_row.nd rfl (Or.inl rfl) (pe_ix ix_list (pv 0) (pe_op op_mod (pe_callTy call_int1 (by rfl) T.b_int (by decide +kernel) (pa_cons (pv 1) pa_nil)) (pe_callB call_len_seq (by rfl) T.b_len PySem.boot_len (pa_cons (pv 0) pa_nil))) (fun _ _ => rfl)))) pss_nil)
      (C8.pss_cut (ps_if (pt_cmpR op_lt (pv 2) pe_int (nomark _)) (pss_one (ps_set (i := 2) sc__law_row.nd rfl (Or.inl rfl) (pe_op op_sub pe_int (pe_op op_mul pe_int (pv 2))))) pss_nil)
      (C8.pss_cut (ps_if (PW.pt (pw_and (pt_cmpR op_ge (pv 2) (pe_op op_pow pe_int pe_int) (nomark _)) (pw_and1 (pt_cmpR op_lt (pv 1) (pe_callB call_len_seq (by rfl) T.b_len PySem.boot_len (pa_cons (pv 0) pa_nil)) (nomark _))))) (pss_one (ps_ret (pv 2))) pss_nil)
      (C8.pss_cut (ps_set (i := 3) sc__law_row.nd rfl (Or.inl rfl) (pe_op op_mod (pe_callTy call_int1 (by rfl) T.b_int (by decide +kernel) (pa_cons (pe_op op_add (pe_op op_add (pe_op op_mul (pv 2) pe_int) (pe_op op_mul (pe_op op_add (pv 1) pe_int) pe_int)) (pe_callB call_len_seq (by rfl) T.b_len PySem.boot_len (pa_cons (pv 0) pa_nil))) pa_nil)) pe_int))
      (C8.pss_cut (ps_set (i := 4) sc__law_row.nd rfl (Or.inl rfl) (pe_op op_mod (pe_callTy call_int1 (by rfl) T.b_int (by decide +kernel) (pa_cons (pe_op op_add (pe_op op_add (pe_op op_mul (pv 3) (pv 3)) (pe_op op_mul (pv 2) pe_int)) (pv 1)) pa_nil)) pe_int))
      (pss_one (ps_ret (pe_op op_add (pe_op op_mul (pv 4) pe_int) (pe_op op_mod (pe_callTy call_int1 (by rfl) T.b_int (by decide +kernel) (pa_cons (pe_op op_mul (pv 3) pe_int) pa_nil)) pe_int)))))))))), ?_⟩
    refine ⟨fun σ H' => (∃ c : Int, σ = [some (.ref z), some (.int (k : Int)), some (.int c), none, none]) ∧ H' = H, ?_, ?_⟩
    · refine ⟨_, rfl, z, _, rfl, .inl hs, _, _, rfl, rfl, _, rfl, ?_⟩
      by_cases c1 : (0 : Int) < ((xs.map V.int).length : Int)
      · refine dT c1 ?_
        have hpos : 0 < xs.length := by rw [List.length_map] at c1; omega
        have hj : k % xs.length < xs.length := Nat.mod_lt _ hpos
        have ej : ((k : Int) % (((xs.map V.int).length : Nat) : Int)) = ((k % xs.length : Nat) : Int) := by rw [List.length_map]; omega
        have hat : atI (xs.map V.int) ((k : Int) % (((xs.map V.int).length : Nat) : Int)) = some (.int xs[k % xs.length]) := by
          rw [ej]
          exact atI_nat (j := k % xs.length) (by rw [List.getElem?_map, List.getElem?_eq_getElem hj]; rfl)
        refine ⟨_, rfl, _, rfl, .inl ⟨_, rfl, _, rfl, z, _, rfl, .inl hs, _, _, rfl, rfl, c1, z, _, _, _, rfl, rfl, hs, hat, ?_⟩⟩
        exact ⟨⟨_, rfl⟩, rfl⟩
      · refine dF c1 ?_
        exact ⟨⟨_, rfl⟩, rfl⟩
    rintro σ H' ⟨⟨c, rfl⟩, rfl⟩
    refine ⟨fun σ H'' => (∃ c : Nat, σ = [some (.ref z), some (.int (k : Int)), some (.int (c : Int)), none, none]) ∧ H'' = H', ?_, ?_⟩
    · refine ⟨_, rfl, _, _, rfl, rfl, _, rfl, ?_⟩
      by_cases c1 : c < 0
      · refine dT c1 ?_
        have e : (1 - 2 * c) = (((1 - 2 * c).toNat : Nat) : Int) := by omega
        refine ⟨_, rfl, _, _, rfl, rfl, .inl ⟨by omega, by omega⟩, _, _, rfl, rfl, ?_⟩
        exact ⟨⟨(1 - 2 * c).toNat, by rw [← e]; rfl⟩, rfl⟩
      · refine dF c1 ?_
        have e : c = ((c.toNat : Nat) : Int) := by omega
        exact ⟨⟨c.toNat, by rw [← e]⟩, rfl⟩
    rintro σ G ⟨⟨c, rfl⟩, rfl⟩
    refine ⟨fun σ H'' => σ = [some (.ref z), some (.int (k : Int)), some (.int (c : Int)), none, none] ∧ H'' = G, ?_, ?_⟩
    · refine ⟨_, rfl, _, _, rfl, rfl, ⟨by decide, by decide, by decide⟩, _, _, rfl, rfl, _, rfl, ?_⟩
      by_cases c1 : (10 : Int) ^ ((9 : Int).toNat) ≤ (c : Int)
      · refine dT c1 ?_
        refine ⟨_, rfl, _, rfl, z, _, rfl, .inl hs, _, _, rfl, rfl, _, rfl, ?_⟩
        by_cases c2 : (k : Int) < ((xs.map V.int).length : Int)
        · refine dT c2 ?_
          exact ⟨_, rfl, kk c⟩
        · refine dF c2 ?_
          exact ⟨rfl, rfl⟩
      · refine dF c1 ?_
        refine iteF ?_
        exact ⟨rfl, rfl⟩
    rintro σ G ⟨rfl, rfl⟩
    refine ⟨fun σ H'' => (∃ f1 : Nat, f1 < 2147483647 ∧ σ = [some (.ref z), some (.int (k : Int)), some (.int (c : Int)), some (.int (f1 : Int)), none]) ∧ H'' = G, ?_, ?_⟩
    · refine ⟨_, rfl, _, _, rfl, rfl, .inr ⟨by omega, by omega⟩, _, rfl, _, _, rfl, rfl, _, _, rfl, rfl, .inr ⟨by omega, by omega⟩, _, _, rfl, rfl, _, rfl, z, _, rfl, .inl hs, _, _, rfl, rfl, .inl ⟨_, rfl, _, _, rfl, rfl, by omega, ?_⟩⟩
      have b := Int.emod_nonneg ((c : Int) * 48271 + ((k : Int) + 1) * 69621 + ((xs.map V.int).length : Int)) (show (2147483647 : Int) ≠ 0 by omega)
      have b2 := Int.emod_lt_of_pos ((c : Int) * 48271 + ((k : Int) + 1) * 69621 + ((xs.map V.int).length : Int)) (show (0 : Int) < 2147483647 by omega)
      obtain ⟨f1, hf⟩ := Int.eq_ofNat_of_zero_le b
      refine ⟨⟨f1, by omega, ?_⟩, rfl⟩
      rw [← hf]; rfl
    rintro σ G ⟨⟨f1, hf1, rfl⟩, rfl⟩
    refine ⟨fun σ H'' => (∃ f2 : Nat, σ = [some (.ref z), some (.int (k : Int)), some (.int (c : Int)), some (.int (f1 : Int)), some (.int (f2 : Int))]) ∧ H'' = G, ?_, ?_⟩
    · refine ⟨_, rfl, _, rfl, _, _, rfl, rfl, .inl ⟨by omega, by omega⟩, _, rfl, _, _, rfl, rfl, .inr ⟨by omega, by omega⟩, _, _, rfl, rfl, _, rfl, _, _, rfl, rfl, .inl ⟨_, rfl, _, _, rfl, rfl, by omega, ?_⟩⟩
      have b := Int.emod_nonneg ((f1 : Int) * (f1 : Int) + (c : Int) * 16807 + (k : Int)) (show (2147483629 : Int) ≠ 0 by omega)
      obtain ⟨f2, hf⟩ := Int.eq_ofNat_of_zero_le b
      refine ⟨⟨f2, ?_⟩, rfl⟩
      rw [← hf]; rfl
    rintro σ G ⟨⟨f2, rfl⟩, rfl⟩
    refine ⟨_, rfl, _, _, rfl, rfl, .inr ⟨by omega, by omega⟩, _, rfl, _, _, rfl, rfl, .inr ⟨by omega, by omega⟩, .inl ⟨_, rfl, _, _, rfl, rfl, by omega, _, _, rfl, rfl, ?_⟩⟩
    have b := Int.emod_nonneg ((f1 : Int) * 40692) (show (2147483399 : Int) ≠ 0 by omega)
    obtain ⟨f3, hf⟩ := Int.eq_ofNat_of_zero_le b
    have e : (f2 : Int) * 2147483647 + (f1 : Int) * 40692 % 2147483399 = ((f2 * 2147483647 + f3 : Nat) : Int) := by rw [hf]; omega
    show Q (.int ((f2 : Int) * 2147483647 + (f1 : Int) * 40692 % 2147483399)) G
    rw [e]
    exact kk _
end

end K30

namespace K30
open PySem PySem.Spec PyProof.Rows L2
/-! ## W34: digits -/
open K30X
def digs : Nat → List Nat → List Nat
  | _, [] => []
  | r, s :: ss => r % s :: digs (r / s) ss
def divs : Nat → List Nat → Nat
  | r, [] => r
  | r, s :: ss => divs (r / s) ss
theorem digs_len : ∀ (ss : List Nat) (r : Nat), (digs r ss).length = ss.length
  | [], _ => rfl
  | _ :: ss, r => by unfold digs; rw [List.length_cons, digs_len ss, List.length_cons]
theorem digs_at : ∀ (ss : List Nat) (r i s : Nat), ss[i]? = some s → (digs r ss)[i]? = some (divs r (ss.take i) % s)
  | [], _, _, _, h => by simp at h
  | x :: ss, r, 0, s, h => by simp at h; subst h; rfl
  | x :: ss, r, i + 1, s, h => by
    show (digs (r / x) ss)[i]? = some (divs (r / x) (ss.take i) % s)
    exact digs_at ss _ i s (by simpa using h)
theorem divs_snoc : ∀ (ss : List Nat) (r i s : Nat), ss[i]? = some s → divs r (ss.take (i + 1)) = divs r (ss.take i) / s
  | [], _, _, _, h => by simp at h
  | x :: ss, r, 0, s, h => by simp at h; subst h; rfl
  | x :: ss, r, i + 1, s, h => by
    show divs (r / x) (ss.take (i + 1)) = divs (r / x) (ss.take i) / s
    exact divs_snoc ss _ i s (by simpa using h)
section
variable {P : Program} {w : World} {K : PySem.W.Frag} {mg : Str → Option Value} {base : Heap}
def sp__law_digits (K : PySem.W.Frag) : Sp := fun vs H Q _ => ∃ (r : Nat) (z : Addr) (ss : List Nat), vs = [.int (r : Int), .ref z] ∧ H z = some (.lst (nats ss)) ∧ (∀ s ∈ ss, 0 < s ∧ s < 1073741824) ∧ ss.length ≤ 100 ∧
  ∀ H' p, Same H H' → H p = Option.none → H' p = some (.lst (nats (digs r ss))) → Q (.ref p) H'
theorem sc__law_digits : FnScope ["_law_row_here", "_law_sizes", "_law_digits_here", "_law_size"] ["_law_row_here", "_law_sizes"] (defScope s__law_digits) := ⟨rfl, rfl, rfl, by decide +kernel, rfl, by decide +kernel, by decide +kernel⟩
theorem cal__law_digits (T : Txt K mg) (F : FD K mg "_law_digits" s__law_digits) : C8.Cal P w K mg base 1 "_law_digits" (sp__law_digits K) [] := by
  obtain ⟨f, fd, F, hm⟩ := F
  refine ⟨f, fd, _, _, F.ok sc__law_digits (fun vs H Q E h => ?_) (fun cdv A outer s H vs Q E hr h => ?_), hm, F.kp, F.bindsN (fun _ _ _ _ _ _ us hl => match us, hl with | [_, _], _ => rfl), .nil⟩
  · obtain ⟨_, _, _, rfl, _⟩ := h
    rfl
  · obtain ⟨r, z, ss, rfl, hz, hs, hl, k⟩ := h
    refine ⟨_, PSs.nox (pss_cons (ps_set (i := 2) sc__law_digits.nd rfl (Or.inl rfl) (pe_lst pa_nil))
      (pss_cons (ps_for PassesOwn.never rfl (pi_list (pv 1)) (pg_name (i := 3) sc__law_digits.nd rfl (Or.inl rfl)) (pss_cons (ps_expr (pe_bm PySem.F.plainAttrs_list PySem.F.slot_list_append PySem.F.type_list_append mt_append (pv 2) (pa_cons (pe_op op_mod (pe_callTy call_int1 (by rfl) T.b_int (by decide +kernel) (pa_cons (pv 0) pa_nil)) (pv 3)) pa_nil)))
      (pss_one (ps_set (i := 0) sc__law_digits.nd rfl (Or.inl rfl) (pe_op op_fdiv (pv 0) (pv 3))))))
      (pss_one (ps_ret (pv 2))))), ?_⟩
    refine ⟨Nat.zero_le _, fun p hp => ?_⟩
    have npz : z ≠ p := fun e => by rw [e, hp] at hz; cases hz
    refine ⟨_, rfl, z, rfl, ⟨_, SqL.of (uN hz hp)⟩, for_it walk_list (fun i σ H' => ∃ (v3 : Option V), σ = [some (.int (divs r (ss.take i) : Int)), some (.ref z), some (.ref p), v3] ∧ Same H H' ∧ H' z = some (.lst (nats ss)) ∧ H' p = some (.lst (nats ((digs r ss).take i))))
      ⟨none, rfl, sN (sR H) hp, uN hz hp, upd_same⟩ (fun i σ H' _ ⟨_, _, _, e, _⟩ => SqL.of e) ?_ ?_⟩
    · rintro i x σ H1 H2 hlt ⟨v3, rfl, s1, hz1, hp1⟩ ⟨rfl, hx⟩
      obtain ⟨n, en, rfl⟩ := nats_get hx
      obtain ⟨n0, n1⟩ := hs n (List.mem_of_getElem? en)
      rw [nats_len] at hlt
      have em : ((divs r (ss.take i) : Nat) : Int) % (n : Int) = ((divs r (ss.take i) % n : Nat) : Int) := by omega
      have ed : ((divs r (ss.take i) : Nat) : Int) / (n : Int) = ((divs r (ss.take i) / n : Nat) : Int) := by omega
      refine ⟨_, rfl, .inl ⟨rfl, _, SqL.of hp1⟩, _, rfl, .inl ⟨_, rfl, _, rfl, _, _, rfl, rfl, by omega, p, _, _, rfl, rfl, hp1, sz_lt (by rw [nats_len, List.length_take, digs_len]; omega), ?_⟩⟩
      refine ⟨_, rfl, _, rfl, _, _, rfl, rfl, ⟨by omega, by omega⟩, ?_⟩
      refine ⟨some (.int (n : Int)), ?_, sM s1 hp, by rw [upd_ne npz]; exact hz1, ?_⟩
      · rw [divs_snoc ss r i n en, ← ed]; rfl
      · rw [upd_same]
        show some (HO.lst (nats ((digs r ss).take i) ++ [V.int (((divs r (ss.take i) : Nat) : Int) % (n : Int))])) = _
        rw [em, ← nats_take, ← nats_take, take_snoc (nats_get2 (digs_at ss r i n en))]
    · rintro σ H1 ⟨v3, rfl, s1, hz1, hp1⟩
      refine ⟨_, rfl, k H1 p s1 hp ?_⟩
      rw [hp1, nats_len, List.take_of_length_le (by rw [digs_len]; exact Nat.le_refl _)]
end

end K30

namespace K30
open PySem PySem.Spec PyProof.Rows L2
/-! ## W35: the layout -/
open K30X
section
variable {P : Program} {w : World} {K : PySem.W.Frag} {mg : Str → Option Value} {base : Heap}
def sp__law_layout (K : PySem.W.Frag) : Sp := fun vs H Q _ => ∃ (r : Nat), vs = [.int (r : Int)] ∧
  ∀ H' x L, L.Ok → Same H H' → H x = Option.none → LayAt K H' x L → Q (.ref x) H'
theorem sc__law_layout : FnScope ["_law_row_here", "_law_choice", "_law_more", "_law_size", "_law_segments", "_law_blocks", "_law_ids_here"] ["_law_row_here"] (defScope s__law_layout) := ⟨rfl, rfl, rfl, by decide +kernel, rfl, by decide +kernel, by decide +kernel⟩
theorem cal__law_layout (T : Txt K mg) (F : FD K mg "_law_layout" s__law_layout) (c__law_digits : C8.Cal P w K mg base 1 "_law_digits" (sp__law_digits K) []) (c_Layout : C8.Mak P w K mg base 2 "Layout" (CL K) (sp_Layout___init__ K) []) : C8.Cal P w K mg base 4 "_law_layout" (sp__law_layout K) [] := by
  obtain ⟨f, fd, F, hm⟩ := F
  refine ⟨f, fd, _, _, F.ok sc__law_layout (fun vs H Q E h => ?_) (fun cdv A outer s H vs Q E hr h => ?_), hm, F.kp, F.bindsN (fun _ _ _ _ _ _ us hl => match us, hl with | [_], _ => rfl), .nil⟩
  · obtain ⟨_, rfl, _⟩ := h
    rfl
  · obtain ⟨r, rfl, k⟩ := h
    refine ⟨_, PSs.nox (pss_cons (ps_asg (C8.pe_c c__law_digits hr (by decide) (by rfl) (pa_cons (pv 0) (pa_cons (pe_lst (pa_cons pe_int (pa_cons pe_int (pa_cons pe_int (pa_cons pe_int (pa_cons pe_int pa_nil)))))) pa_nil))) (pg_unl rfl (pgs_cons (pg_name (i := 1) sc__law_layout.nd rfl (Or.inl rfl)) (pgs_cons (pg_name (i := 2) sc__law_layout.nd rfl (Or.inl rfl)) (pgs_cons (pg_name (i := 3) sc__law_layout.nd rfl (Or.inl rfl)) (pgs_cons (pg_name (i := 4) sc__law_layout.nd rfl (Or.inl rfl)) (pgs_cons (pg_name (i := 5) sc__law_layout.nd rfl (Or.inl rfl)) pgs_nil)))))))
      (C8.pss_cut (ps_if (pt_cmpR op_eq (pv 1) pe_int (nomark _)) (pss_cons (ps_set (i := 4) sc__law_layout.nd rfl (Or.inl rfl) (pe_op op_add pe_int (pv 4)))
      (pss_cons (ps_set (i := 5) sc__law_layout.nd rfl (Or.inl rfl) (pe_op op_add pe_int (pv 5)))
      (pss_one (ps_set (i := 3) sc__law_layout.nd rfl (Or.inl rfl) (pe_ix ix_list (pe_lst (pa_cons pe_int (pa_cons pe_int (pa_cons pe_int pa_nil)))) (pv 3) (fun _ _ => rfl)))))) (pss_cons (ps_set (i := 4) sc__law_layout.nd rfl (Or.inl rfl) (pe_op op_add pe_int (pe_op op_mul (pv 2) (pe_op op_fdiv (pv 1) pe_int))))
      (pss_cons (ps_set (i := 5) sc__law_layout.nd rfl (Or.inl rfl) pe_int)
      (pss_one (ps_set (i := 3) sc__law_layout.nd rfl (Or.inl rfl) pe_int)))))
      (pss_cons (ps_set (i := 6) sc__law_layout.nd rfl (Or.inl rfl) (pe_op op_mul (pe_op op_sub (pv 4) pe_int) (pe_op op_sub (pv 5) pe_int)))
      (pss_cons (ps_if (pt_cmpR op_gt (pe_op op_add (pe_op op_add pe_int (pe_op op_mul pe_int (pe_op op_sub (pv 5) pe_int))) (pe_op op_fdiv (pe_op op_add (pv 6) pe_int) pe_int)) (pv 3) (nomark _)) (pss_one (ps_ret (C8.pe_mk c_Layout hr (by decide) (by rfl) (pa_cons pe_int (pa_cons pe_int (pa_cons pe_int pa_nil)))))) pss_nil)
      (pss_one (ps_ret (C8.pe_mk c_Layout hr (by decide) (by rfl) (pa_cons (pv 4) (pa_cons (pv 5) (pa_cons (pv 3) pa_nil)))))))))), ?_⟩
    refine ⟨_, rfl, by show 5 ≤ sizeLine; decide, fun pz hpz => ?_⟩
    refine ⟨r, pz, [4, 3, 3, 13, 17], rfl, upd_same, by decide, by decide, fun H2 p s2 hp hds => ?_⟩
    have s1 : Same H H2 := sT (sN (sR H) hpz) s2
    refine ⟨p, _, rfl, SqL.of hds, rfl, _, _, rfl, _, _, rfl, _, _, rfl, _, _, rfl, _, _, rfl, rfl, ?_⟩
    have b0 : r % 4 < 4 := Nat.mod_lt _ (by omega)
    have b1 : r / 4 % 3 < 3 := Nat.mod_lt _ (by omega)
    have b2 : r / 4 / 3 % 3 < 3 := Nat.mod_lt _ (by omega)
    have b3 : r / 4 / 3 / 3 % 13 < 13 := Nat.mod_lt _ (by omega)
    have b4 : r / 4 / 3 / 3 / 13 % 17 < 17 := Nat.mod_lt _ (by omega)
    refine ⟨fun σ G => (∃ (v1 v2 : Option V) (L : Lay), L.Ok ∧ σ = [some (.int (r : Int)), v1, v2, some (.int (L.bs : Int)), some (.int (L.segs : Int)), some (.int (L.blks : Int)), none]) ∧ Same H G, ?_, ?_⟩
    · refine ⟨_, rfl, rfl, _, rfl, ?_⟩
      by_cases c1 : V.int ((r % 4 : Nat) : Int) = V.int 1
      · refine dT c1 ?_
        refine ⟨_, rfl, _, _, rfl, rfl, ?_⟩
        refine ⟨_, rfl, _, _, rfl, rfl, ?_⟩
        refine ⟨by show 3 ≤ sizeLine; decide, fun pl hpl => ?_⟩
        have hz : ∃ z : Nat, (z = 64 ∨ z = 128 ∨ z = 256) ∧ atI [V.int 64, V.int 128, V.int 256] ((r / 4 / 3 % 3 : Nat) : Int) = some (.int (z : Int)) := by
          generalize r / 4 / 3 % 3 = d at b2
          match d, b2 with
          | 0, _ => exact ⟨64, .inl rfl, atI_nat (j := 0) rfl⟩
          | 1, _ => exact ⟨128, .inr (.inl rfl), atI_nat (j := 1) rfl⟩
          | 2, _ => exact ⟨256, .inr (.inr rfl), atI_nat (j := 2) rfl⟩
        obtain ⟨z, hz, hat⟩ := hz
        refine ⟨_, rfl, pl, _, _, _, rfl, rfl, SqL.of upd_same, hat, ?_⟩
        refine ⟨⟨_, _, ⟨4 + r / 4 / 3 / 3 % 13, 16 + r / 4 / 3 / 3 / 13 % 17, z⟩, ⟨by show 4 ≤ 4 + _; omega, by show 4 + _ ≤ 16; omega, by show 16 ≤ 16 + _; omega, by show 16 + _ ≤ 32; omega, hz⟩, rfl⟩, sN s1 hpl⟩
      · refine dF c1 ?_
        refine ⟨_, rfl, _, rfl, _, _, rfl, rfl, ⟨by omega, by omega⟩, _, _, rfl, rfl, .inl ⟨by omega, by omega⟩, _, _, rfl, rfl, ?_⟩
        have hm : r / 4 % 3 * (r % 4 / 2) ≤ 2 * 1 := Nat.mul_le_mul (by omega) (by omega)
        have e : (4 : Int) + ((r / 4 % 3 : Nat) : Int) * (((r % 4 : Nat) : Int) / 2) = ((4 + r / 4 % 3 * (r % 4 / 2) : Nat) : Int) := by
          rw [show (((r % 4 : Nat) : Int) / 2) = ((r % 4 / 2 : Nat) : Int) by omega, ← Int.natCast_mul]
          omega
        refine ⟨⟨some (.int ((r % 4 : Nat) : Int)), some (.int ((r / 4 % 3 : Nat) : Int)), ⟨4 + r / 4 % 3 * (r % 4 / 2), 16, 64⟩, ⟨by show 4 ≤ 4 + _; omega, by show 4 + _ ≤ 16; omega, by show 16 ≤ 16; omega, by show 16 ≤ 32; omega, .inl rfl⟩, ?_⟩, s1⟩
        rw [← e]; rfl
    rintro σ G ⟨⟨v1, v2, L, O, rfl⟩, sg⟩
    have o1 := O.s4
    have o2 := O.s16
    have o3 := O.b16
    have o4 := O.b32
    have e1 : ((L.segs : Int) - 1) * ((L.blks : Int) - 1) = (L.lastId : Int) := by
      have a1 : (L.segs : Int) - 1 = ((L.segs - 1 : Nat) : Int) := by omega
      have a2 : (L.blks : Int) - 1 = ((L.blks - 1 : Nat) : Int) := by omega
      rw [a1, a2, ← Int.natCast_mul]
      have a3 : (L.segs - 1) * (L.blks - 1) = L.lastId := by
        unfold Lay.lastId Lay.lim Lay.pay
        rw [← Nat.succ_mul]
        congr 1
        omega
      rw [a3]
    refine ⟨_, rfl, _, _, rfl, rfl, _, rfl, _, _, rfl, rfl, _, _, rfl, rfl, .inl ⟨by omega, by omega⟩, ?_⟩
    refine ⟨_, rfl, _, _, rfl, rfl, _, _, rfl, rfl, .inl ⟨by omega, by omega⟩, _, _, rfl, rfl, _, rfl, _, _, rfl, rfl, _, _, rfl, rfl, ⟨by omega, by omega⟩, _, _, rfl, rfl, _, rfl, _, _, rfl, rfl, _, rfl, ?_⟩
    rw [e1]
    by_cases c1 : (L.bs : Int) < 16 + 2 * ((L.blks : Int) - 1) + ((L.lastId : Int) + 7) / 8
    · refine dT c1 ?_
      refine fun x dx hx hdx hne => ?_
      have sm : Same G (upd (upd G dx (.own x)) x (.ins (CL K) dx [])) := sM (sN (sR G) hdx) hx
      refine ⟨x, dx, ⟨4, 16, 64⟩, rfl, upd_same, ⟨by decide, by decide, by decide, by decide, .inl rfl⟩, by unfold Lay.Fit; decide, fun H' b hx' => ⟨rfl, k H' x _ ⟨by decide, by decide, by decide, by decide, .inl rfl⟩ (fun c o e => b c o (ne_of_none e (sF sg hx)) (sm _ _ (sg _ _ e))) (sF sg hx) ⟨_, hx'⟩⟩⟩
    · refine dF c1 ?_
      refine ⟨_, rfl, _, rfl, _, rfl, fun x dx hx hdx hne => ?_⟩
      have sm : Same G (upd (upd G dx (.own x)) x (.ins (CL K) dx [])) := sM (sN (sR G) hdx) hx
      refine ⟨x, dx, L, rfl, upd_same, O, by unfold Lay.Fit Lay.pay; omega, fun H' b hx' => ⟨rfl, k H' x _ O (fun c o e => b c o (ne_of_none e (sF sg hx)) (sm _ _ (sg _ _ e))) (sF sg hx) ⟨_, hx'⟩⟩⟩
end

end K30

namespace K30
open PySem PySem.Spec PyProof.Rows L2
/-! ## W36: ids -/
open K30X
section
variable {P : Program} {w : World} {K : PySem.W.Frag} {mg : Str → Option Value} {base : Heap}
theorem Lay.Ok.last {L : Lay} (O : L.Ok) : 12 ≤ L.lastId ∧ L.lastId ≤ 465 := by
  have a3 : L.lastId = (L.segs - 1) * (L.blks - 1) := by
    unfold Lay.lastId Lay.lim Lay.pay
    rw [← Nat.succ_mul]
    congr 1
    have := O.s4
    omega
  rw [a3]
  have h1 : 3 * 15 ≤ (L.segs - 1) * (L.blks - 1) := Nat.mul_le_mul (by have := O.s4; omega) (by have := O.b16; omega)
  have h2 : (L.segs - 1) * (L.blks - 1) ≤ 15 * 31 := Nat.mul_le_mul (by have := O.s16; omega) (by have := O.b32; omega)
  omega
def sp__law_ids (K : PySem.W.Frag) : Sp := fun vs H Q _ => ∃ (lay : Addr) (r : Nat) (L : Lay), vs = [.ref lay, .int (r : Int)] ∧ LayAt K H lay L ∧ L.Ok ∧
  ∀ H' p ids, Same H H' → H p = Option.none → H' p = some (.lst (nats ids)) → ids.Nodup → (∀ k ∈ ids, 0 < k) → ids.length ≤ 32 → Q (.ref p) H'
theorem sc__law_ids : FnScope ["_law_layout_here", "_law_row_here", "_law_last", "_law_size", "_law_many", "_law_more", "_law_near", "_law_first", "_law_step", "_law_span", "_law_ids_here", "_law_k", "_law_key"] ["_law_layout_here", "_law_row_here"] (defScope s__law_ids) := ⟨rfl, rfl, rfl, by decide +kernel, rfl, by decide +kernel, by decide +kernel⟩
theorem cal__law_ids (T : Txt K mg) (F : FD K mg "_law_ids" s__law_ids) (c__law_digits : C8.Cal P w K mg base 1 "_law_digits" (sp__law_digits K) []) : C8.Cal P w K mg base 2 "_law_ids" (sp__law_ids K) [] := by
  obtain ⟨f, fd, F, hm⟩ := F
  refine ⟨f, fd, _, _, F.ok sc__law_ids (fun vs H Q E h => ?_) (fun cdv A outer s H vs Q E hr h => ?_), hm, F.kp, F.bindsN (fun _ _ _ _ _ _ us hl => match us, hl with | [_, _], _ => rfl), .nil⟩
  · obtain ⟨_, _, _, rfl, _⟩ := h
    rfl
  · obtain ⟨lay, r, L, rfl, ⟨dl, hl⟩, O, k⟩ := h
    have b32 := O.b32
    have b16 := O.b16
    obtain ⟨l1, l2⟩ := O.last
    refine ⟨_, PSs.nox (pss_cons (ps_set (i := 2) sc__law_ids.nd rfl (Or.inl rfl) (pe_fld (pv 0) rfl))
      (pss_cons (ps_asg (C8.pe_c c__law_digits hr (by decide) (by rfl) (pa_cons (pv 1) (pa_cons (pe_lst (pa_cons pe_int (pa_cons pe_int (pa_cons (pe_op op_add (pe_fld (pv 0) rfl) pe_int) (pa_cons pe_int (pa_cons (pv 2) (pa_cons (pv 2) pa_nil))))))) pa_nil))) (pg_unl rfl (pgs_cons (pg_name (i := 3) sc__law_ids.nd rfl (Or.inl rfl)) (pgs_cons (pg_name (i := 4) sc__law_ids.nd rfl (Or.inl rfl)) (pgs_cons (pg_name (i := 5) sc__law_ids.nd rfl (Or.inl rfl)) (pgs_cons (pg_name (i := 6) sc__law_ids.nd rfl (Or.inl rfl)) (pgs_cons (pg_name (i := 7) sc__law_ids.nd rfl (Or.inl rfl)) (pgs_cons (pg_name (i := 8) sc__law_ids.nd rfl (Or.inl rfl)) pgs_nil))))))))
      (C8.pss_cut (ps_if (pt_cmpR op_eq (pv 4) pe_int (nomark _)) (pss_one (ps_set (i := 3) sc__law_ids.nd rfl (Or.inl rfl) (pv 5))) pss_nil)
      (pss_cons (ps_set (i := 9) sc__law_ids.nd rfl (Or.inl rfl) (pv 2))
      (C8.pss_cut (ps_if (pt_cmpR op_gt (pv 6) pe_int (nomark _)) (pss_one (ps_set (i := 9) sc__law_ids.nd rfl (Or.inl rfl) pe_int)) pss_nil)
      (pss_cons (ps_set (i := 10) sc__law_ids.nd rfl (Or.inl rfl) (pe_lst pa_nil))
      (pss_cons (ps_for PassesOwn.never rfl (pi_range1 rfl T.b_range (pa_cons (pv 3) pa_nil)) (pg_name (i := 11) sc__law_ids.nd rfl (Or.inl rfl)) (pss_cons (ps_set (i := 12) sc__law_ids.nd rfl (Or.inl rfl) (pe_op op_add pe_int (pe_op op_mod (pe_callTy call_int1 (by rfl) T.b_int (by decide +kernel) (pa_cons (pe_op op_add (pv 7) (pe_op op_mul (pv 11) (pe_op op_add (pv 8) pe_int))) pa_nil)) (pv 9))))
      (pss_one (ps_if (pt_cmpR op_notIn_seq (pv 12) (pv 10) (by rfl)) (pss_one (ps_expr (pe_bm PySem.F.plainAttrs_list PySem.F.slot_list_append PySem.F.type_list_append mt_append (pv 10) (pa_cons (pv 12) pa_nil)))) pss_nil))))
      (pss_one (ps_ret (pv 10)))))))))), ?_⟩
    refine ⟨_, rfl, lay, _, dl, _, _, rfl, hl, T.cL, T.nL_last_id, rfl, ?_⟩
    refine ⟨_, rfl, _, rfl, lay, _, dl, _, _, rfl, hl, T.cL, T.nL_payload, rfl, _, _, rfl, rfl, _, rfl, _, rfl, by show 6 ≤ sizeLine; decide, fun pz hpz => ?_⟩
    refine ⟨r, pz, [5, 6, L.pay + 1, 3, L.lastId, L.lastId], rfl, upd_same, fun s hs => ?_, by show 6 ≤ 100; decide, fun H2 p s2 hp hds => ?_⟩
    · have p1 : L.pay ≤ 31 := by unfold Lay.pay; omega
      simp at hs
      rcases hs with z | z | z | z | z <;> omega
    have s1 : Same H H2 := sT (sN (sR H) hpz) s2
    refine ⟨p, _, rfl, SqL.of hds, rfl, _, _, rfl, _, _, rfl, _, _, rfl, _, _, rfl, _, _, rfl, _, _, rfl, rfl, ?_⟩
    have b0 : r % 5 < 5 := Nat.mod_lt _ (by omega)
    have b2 : r / 5 / 6 % (L.pay + 1) < L.pay + 1 := Nat.mod_lt _ (by omega)
    have p1 : L.pay ≤ 31 := by unfold Lay.pay; omega
    refine ⟨fun σ G => (∃ (sz m2 m3 near first step : Nat), sz ≤ 31 ∧ σ = [some (.ref lay), some (.int (r : Int)), some (.int (L.lastId : Int)), some (.int (sz : Int)), some (.int (m2 : Int)), some (.int (m3 : Int)), some (.int (near : Int)), some (.int (first : Int)), some (.int (step : Int)), none, none, none, none]) ∧ G = H2, ?_, ?_⟩
    · refine ⟨_, rfl, rfl, _, rfl, ?_⟩
      by_cases c1 : V.int ((r / 5 % 6 : Nat) : Int) = V.int 0
      · refine dT c1 ?_
        exact ⟨_, rfl, ⟨⟨r / 5 / 6 % (L.pay + 1), r / 5 % 6, r / 5 / 6 % (L.pay + 1), _, _, _, by omega, rfl⟩, rfl⟩⟩
      · refine dF c1 ?_
        exact ⟨⟨r % 5, r / 5 % 6, r / 5 / 6 % (L.pay + 1), _, _, _, by omega, rfl⟩, rfl⟩
    rintro σ G ⟨⟨sz, m2, m3, near, first, step, hsz, rfl⟩, rfl⟩
    refine ⟨_, rfl, ?_⟩
    refine ⟨fun σ G' => (∃ (sp : Nat), 0 < sp ∧ σ = [some (.ref lay), some (.int (r : Int)), some (.int (L.lastId : Int)), some (.int (sz : Int)), some (.int (m2 : Int)), some (.int (m3 : Int)), some (.int (near : Int)), some (.int (first : Int)), some (.int (step : Int)), some (.int (sp : Int)), none, none, none]) ∧ G' = G, ?_, ?_⟩
    · refine ⟨_, rfl, _, _, rfl, rfl, _, rfl, ?_⟩
      by_cases c1 : (0 : Int) < (near : Int)
      · refine dT c1 ?_
        exact ⟨⟨12, by omega, rfl⟩, rfl⟩
      · refine dF c1 ?_
        exact ⟨⟨L.lastId, by omega, rfl⟩, rfl⟩
    rintro σ G' ⟨⟨sp, hsp, rfl⟩, rfl⟩
    refine ⟨Nat.zero_le _, fun pi hpi => ?_⟩
    have hpi0 : H pi = none := sF s1 hpi
    refine ⟨_, rfl, _, rfl, by omega, by omega, for_it walk_range (fun i σ H' => ∃ (v11 v12 : Option V) (ids : List Nat), σ = [some (.ref lay), some (.int (r : Int)), some (.int (L.lastId : Int)), some (.int (sz : Int)), some (.int (m2 : Int)), some (.int (m3 : Int)), some (.int (near : Int)), some (.int (first : Int)), some (.int (step : Int)), some (.int (sp : Int)), some (.ref pi), v11, v12] ∧ Same H H' ∧ H' pi = some (.lst (nats ids)) ∧ ids.length ≤ i ∧ ids.Nodup ∧ ∀ k ∈ ids, 0 < k)
      ⟨none, none, [], rfl, sN s1 hpi, upd_same, Nat.le_refl _, List.nodup_nil, fun k hk => by cases hk⟩ (fun _ _ _ _ _ => trivial) ?_ ?_⟩
    · rintro i x σ H4 H5 hlt ⟨v11, v12, ids, rfl, s4, h4, il, nd, pos⟩ ⟨rfl, rfl⟩
      have ei : (fun (j : Nat) => V.int (0 + (j : Int))) i = V.int (i : Int) := by
        show V.int (0 + (i : Int)) = _
        rw [Int.zero_add]
      rw [ei]
      have hi : i < 31 := by omega
      have hb := Int.emod_nonneg ((first : Int) + (i : Int) * ((step : Int) + 1)) (show (sp : Int) ≠ 0 by omega)
      obtain ⟨m, hm⟩ := Int.eq_ofNat_of_zero_le hb
      refine ⟨_, rfl, _, rfl, _, rfl, _, _, rfl, rfl, _, _, rfl, rfl, .inl ⟨by omega, by omega⟩, _, _, rfl, rfl, .inl ⟨_, rfl, _, rfl, _, _, rfl, rfl, by omega, _, _, rfl, rfl, ?_⟩⟩
      have ek : ∃ key : Nat, (fun i j => V.int (i + j)) 1 (((first : Int) + (i : Int) * ((step : Int) + 1)) % (sp : Int)) = V.int (key : Int) ∧ 0 < key := ⟨m + 1, by show V.int (1 + _) = _; rw [hm]; congr 1; omega, by omega⟩
      obtain ⟨key, ek, kp⟩ := ek
      show gName 12 ((fun i j => V.int (i + j)) 1 (((first : Int) + (i : Int) * ((step : Int) + 1)) % (sp : Int))) _ _ _
      rw [ek]
      refine ⟨_, rfl, _, rfl, pi, _, rfl, .inl (SqL.of h4), rfl, flat_nats, _, rfl, ?_⟩
      have ev : (if true = true then !inV (.int (key : Int)) (nats ids) else inV (.int (key : Int)) (nats ids)) = !decide (key ∈ ids) := by rw [if_pos rfl, inV_nats]
      rw [ev]
      by_cases c1 : key ∈ ids
      · refine dNF c1 ?_
        exact ⟨_, _, ids, rfl, s4, h4, by omega, nd, pos⟩
      · refine dNT c1 ?_
        refine ⟨_, rfl, .inl ⟨rfl, _, SqL.of h4⟩, _, rfl, pi, _, _, rfl, rfl, h4, sz_lt (by rw [nats_len]; omega), ?_⟩
        refine ⟨_, _, ids ++ [key], rfl, sM s4 hpi0, by rw [upd_same, nats_app]; rfl, by rw [List.length_append]; simp; omega, ?_, fun z hz => ?_⟩
        · rw [List.nodup_append]
          refine ⟨nd, by simp, fun a ha b hb => ?_⟩
          rw [List.mem_singleton.mp hb]
          exact fun e => c1 (e ▸ ha)
        · rcases List.mem_append.mp hz with hz | hz
          · exact pos z hz
          · rw [List.mem_singleton.mp hz]; exact kp
    · rintro σ H4 ⟨v11, v12, ids, rfl, s4, h4, il, nd, pos⟩
      exact ⟨_, rfl, k H4 pi ids s4 hpi0 h4 nd pos (by omega)⟩
end

end K30

namespace K30
open PySem PySem.Spec PyProof.Rows L2
/-! ## W37: payloads -/
open K30X
section
variable {P : Program} {w : World} {K : PySem.W.Frag} {mg : Str → Option Value} {base : Heap}
theorem rep_use {H : Hp} {l : Addr} {k v : Nat} {Q : VK} {K : PySem.W.Frag} {i : Int} (h : H l = some (.tup (nats [v]))) (hi : i = (k : Int)) (hk : k ≤ 1000) (q : ∀ H' p, Same H H' → H' p = some (.tup (nats (List.replicate k v))) → Q (.ref p) H') : rRepA K (.ref l) (.int i) H Q := by
  subst hi
  refine ⟨l, k, _, rfl, rfl, SqT.of h, by simp [nats], by omega, by omega, by rw [nats_len]; show 1 ≤ 1000; omega, fun e => q H l (sR H) ?_, fun _ p hp => q _ p (sN (sR H) hp) ?_⟩
  · have : k = 1 := by omega
    subst this
    exact h
  · rw [upd_same]
    simp [nats]
theorem cat_use {H : Hp} {a b : Addr} {xs ys : List Nat} {Q : VK} {K : PySem.W.Frag} (h : H a = some (.tup (nats xs))) (h2 : H b = some (.tup (nats ys))) (hk : xs.length + ys.length ≤ 10000) (q : ∀ H' p, Same H H' → H' p = some (.tup (nats (xs ++ ys))) → Q (.ref p) H') : rCatA K (.ref a) (.ref b) H Q := by
  refine ⟨a, b, _, _, rfl, rfl, SqT.of h, SqT.of h2, sz_ok (by rw [nats_len, nats_len]; omega), fun e => q H b (sR H) ?_, fun _ e => q H a (sR H) ?_, fun _ _ p hp => q _ p (sN (sR H) hp) ?_⟩
  · have : xs = [] := by
      cases xs with
      | nil => rfl
      | cons x r => cases e
    rw [this]; exact h2
  · have : ys = [] := by
      cases ys with
      | nil => rfl
      | cons x r => cases e
    rw [this, List.append_nil]; exact h
  · rw [upd_same, nats_app]
def sp__law_payloads (K : PySem.W.Frag) : Sp := fun vs H Q _ => ∃ (lay : Addr) (r c : Nat) (L : Lay), vs = [.ref lay, .int (r : Int), .int (c : Int)] ∧ LayAt K H lay L ∧ L.Ok ∧ c ≤ 32 ∧
  ∀ H' p vps pays, Same H H' → H p = Option.none → H' p = some (.lst vps) → All2 (PayR H') pays vps → pays.length = c → (∀ x ∈ pays, x.1 = 3 ∨ x.1 = 4) → Q (.ref p) H'
theorem sc__law_payloads : FnScope ["_law_layout_here", "_law_row_here", "_law_count", "_law_payloads_here", "_law_k", "_law_kind", "_law_value", "_law_at"] ["_law_layout_here", "_law_row_here", "_law_count"] (defScope s__law_payloads) := ⟨rfl, rfl, rfl, by decide +kernel, rfl, by decide +kernel, by decide +kernel⟩
theorem cal__law_payloads (T : Txt K mg) (F : FD K mg "_law_payloads" s__law_payloads) (c__law_digits : C8.Cal P w K mg base 1 "_law_digits" (sp__law_digits K) []) : C8.Cal P w K mg base 2 "_law_payloads" (sp__law_payloads K) [] := by
  obtain ⟨f, fd, F, hm⟩ := F
  refine ⟨f, fd, _, _, F.ok sc__law_payloads (fun vs H Q E h => ?_) (fun cdv A outer s H vs Q E hr h => ?_), hm, F.kp, F.bindsN (fun _ _ _ _ _ _ us hl => match us, hl with | [_, _, _], _ => rfl), .nil⟩
  · obtain ⟨_, _, _, _, rfl, _⟩ := h
    rfl
  · obtain ⟨lay, r, c, L, rfl, ⟨dl, hl⟩, O, hc, k⟩ := h
    have ob := O.bnd
    obtain ⟨l1, l2⟩ := O.last
    have oz := O.z
    have of_ : 32 ≤ L.fan := by unfold Lay.fan; omega
    refine ⟨_, PSs.nox (pss_cons (ps_set (i := 3) sc__law_payloads.nd rfl (Or.inl rfl) (pe_lst pa_nil))
      (pss_cons (ps_for PassesOwn.never rfl (pi_range1 rfl T.b_range (pa_cons (pv 2) pa_nil)) (pg_name (i := 4) sc__law_payloads.nd rfl (Or.inl rfl)) (pss_cons (ps_asg (C8.pe_c c__law_digits hr (by decide) (by rfl) (pa_cons (pe_op op_fdiv (pv 1) (pe_op op_add (pv 4) pe_int)) (pa_cons (pe_lst (pa_cons pe_int (pa_cons pe_int (pa_cons (pe_fld (pv 0) rfl) pa_nil)))) pa_nil))) (pg_unl rfl (pgs_cons (pg_name (i := 5) sc__law_payloads.nd rfl (Or.inl rfl)) (pgs_cons (pg_name (i := 6) sc__law_payloads.nd rfl (Or.inl rfl)) (pgs_cons (pg_name (i := 7) sc__law_payloads.nd rfl (Or.inl rfl)) pgs_nil)))))
      (pss_one (ps_if (pt_cmpR op_eq (pv 5) pe_int (nomark _)) (pss_one (ps_expr (pe_bm PySem.F.plainAttrs_list PySem.F.slot_list_append PySem.F.type_list_append mt_append (pv 3) (pa_cons (pe_tup (pa_cons pe_int (pa_cons (pe_op op_catA (pe_tup (pa_cons (pe_op op_add pe_int (pe_op op_mod (pv 6) (pe_fld (pv 0) rfl))) pa_nil)) (pe_op op_repA (pe_tup (pa_cons pe_int pa_nil)) (pe_op op_sub (pe_fld (pv 0) rfl) pe_int))) pa_nil))) pa_nil)))) (pss_one (ps_expr (pe_bm PySem.F.plainAttrs_list PySem.F.slot_list_append PySem.F.type_list_append mt_append (pv 3) (pa_cons (pe_tup (pa_cons pe_int (pa_cons (pe_op op_catA (pe_op op_repA (pe_tup (pa_cons (pv 6) pa_nil)) (pv 7)) (pe_op op_repA (pe_tup (pa_cons (pe_op op_mod (pe_op op_mul (pv 6) pe_int) pe_int) pa_nil)) (pe_op op_sub (pe_fld (pv 0) rfl) (pv 7)))) pa_nil))) pa_nil))))))))
      (pss_one (ps_ret (pv 3))))), ?_⟩
    refine ⟨Nat.zero_le _, fun pp hpp => ?_⟩
    refine ⟨_, rfl, _, rfl, by omega, by omega, for_it walk_range (fun i σ H' => ∃ (v4 v5 v6 v7 : Option V) (vps : List V) (pays : List Pay), σ = [some (.ref lay), some (.int (r : Int)), some (.int (c : Int)), some (.ref pp), v4, v5, v6, v7] ∧ Same H H' ∧ H' pp = some (.lst vps) ∧ All2 (PayR H') pays vps ∧ pays.length = i ∧ ∀ x ∈ pays, x.1 = 3 ∨ x.1 = 4)
      ⟨none, none, none, none, [], [], rfl, sN (sR H) hpp, upd_same, .nil, rfl, fun x hx => by cases hx⟩ (fun _ _ _ _ _ => trivial) ?_ ?_⟩
    · rintro i x σ H4 H5 hlt ⟨v4, v5, v6, v7, vps, pays, rfl, s4, h4, ra, pl, pk⟩ ⟨rfl, rfl⟩
      have ei : (fun (j : Nat) => V.int (0 + (j : Int))) i = V.int (i : Int) := by
        show V.int (0 + (i : Int)) = _
        rw [Int.zero_add]
      rw [ei]
      have ed : (r : Int) / ((i : Int) + 1) = ((r / (i + 1) : Nat) : Int) := by
        rw [show (i : Int) + 1 = ((i + 1 : Nat) : Int) by omega]; exact (Int.natCast_ediv _ _).symm
      refine ⟨_, rfl, _, rfl, _, _, rfl, rfl, _, _, rfl, rfl, ⟨by omega, by omega⟩, _, rfl, lay, _, dl, _, _, rfl, s4 _ _ hl, T.cL, T.nL_block_size, rfl, by show 3 ≤ sizeLine; decide, fun pz hpz => ?_⟩
      refine ⟨r / (i + 1), pz, [3, 256, L.bs], ?_, upd_same, fun s hs => ?_, by show 3 ≤ 100; decide, fun H6 p s6 hp hds => ?_⟩
      · show [V.int ((r : Int) / ((i : Int) + 1)), V.ref pz] = _
        rw [ed]
      · simp at hs
        rcases hs with z | z | z <;> omega
      refine ⟨p, _, rfl, SqL.of hds, rfl, _, _, rfl, _, _, rfl, _, _, rfl, rfl, ?_⟩
      have s46 : Same H5 H6 := sT (sN (sR H5) hpz) s6
      have s06 := sT s4 s46
      have hpp6 := s46 _ _ h4
      have b2 : r / (i + 1) / 3 / 256 % L.bs < L.bs := Nat.mod_lt _ (by omega)
      have b1 : r / (i + 1) / 3 % 256 < 256 := Nat.mod_lt _ (by omega)
      -- behind the append
      have fin : ∀ (v5 v6 v7 : Option V) (t tb : Addr) (kd : Nat) (xs : List Nat) (G : Hp), (kd = 3 ∨ kd = 4) → Same H6 G → G t = some (.tup [.int (kd : Int), .ref tb]) → G tb = some (.tup (nats xs)) →
          ∃ (v4' v5' v6' v7' : Option V) (vps' : List V) (pays' : List Pay), ([some (.ref lay), some (.int (r : Int)), some (.int (c : Int)), some (.ref pp), some (.int (i : Int)), v5, v6, v7] : List (Option V)) = [some (.ref lay), some (.int (r : Int)), some (.int (c : Int)), some (.ref pp), v4', v5', v6', v7'] ∧ Same H (upd G pp (.lst (vps ++ [.ref t]))) ∧ upd G pp (.lst (vps ++ [.ref t])) pp = some (.lst vps') ∧ All2 (PayR (upd G pp (.lst (vps ++ [.ref t])))) pays' vps' ∧ pays'.length = i + 1 ∧ ∀ x ∈ pays', x.1 = 3 ∨ x.1 = 4 := by
        intro v5 v6 v7 t tb kd xs G hk sg ht htb
        have tk : TK G (upd G pp (.lst (vps ++ [.ref t]))) := TK.upd fun xs e => by rw [sg _ _ hpp6] at e; cases e
        refine ⟨_, _, _, _, _, pays ++ [(kd, xs)], rfl, sM (sT s06 sg) hpp, upd_same, (ra.mono fun _ _ z => (z.tk (TK.of (sT s46 sg))).tk tk).snoc ⟨t, tb, rfl, tk _ _ ht, tk _ _ htb⟩, by rw [List.length_append, pl]; rfl, fun x hx => ?_⟩
        rcases List.mem_append.mp hx with z | z
        · exact pk x z
        · rw [List.mem_singleton.mp z]; exact hk
      have hvl : vps.length < sizeLine := Nat.lt_of_le_of_lt (show vps.length ≤ 100 by rw [← ra.1]; omega) (by decide)
      refine ⟨_, rfl, rfl, _, rfl, ?_⟩
      by_cases c1 : V.int ((r / (i + 1) % 3 : Nat) : Int) = V.int 0
      · refine dT c1 ?_
        have em : (1 : Int) + ((r / (i + 1) / 3 % 256 : Nat) : Int) % (L.lastId : Int) = ((1 + r / (i + 1) / 3 % 256 % L.lastId : Nat) : Int) := by omega
        refine ⟨_, rfl, .inl ⟨rfl, _, SqL.of hpp6⟩, _, rfl, _, rfl, lay, _, dl, _, _, rfl, s06 _ _ hl, T.cL, T.nL_last_id, rfl, _, _, rfl, rfl, by omega, _, _, rfl, rfl, by show 1 ≤ sizeLine; decide, fun p1 hp1 => ?_⟩
        refine ⟨by show 1 ≤ sizeLine; decide, fun p2 hp2 => ?_⟩
        have s8 := sN (o := .tup [V.int 0]) (sN (sR H6) hp1) hp2
        have g1 : H6 p1 = Option.none := hp1
        refine ⟨_, rfl, lay, _, dl, _, _, rfl, s8 _ _ (s06 _ _ hl), T.cL, T.nL_fan, rfl, _, _, rfl, rfl, rep_use (k := L.fan - 1) (v := 0) upd_same (by omega) (by omega) fun G3 p3 s3 h3 => cat_use (xs := [1 + r / (i + 1) / 3 % 256 % L.lastId]) (s3 _ _ (uN ?_ hp2)) h3 (by rw [List.length_replicate]; show 1 + _ ≤ _; omega) fun G4 p4 s4' h4' => ⟨by show 2 ≤ sizeLine; decide, fun p5 hp5 => ?_⟩⟩
        · rw [upd_same]
          show some (HO.tup [V.int ((1 : Int) + ((r / (i + 1) / 3 % 256 : Nat) : Int) % (L.lastId : Int))]) = _
          rw [em]; rfl
        have s9 := sN (o := .tup [V.int 4, V.ref p4]) (sT s8 (sT s3 s4')) hp5
        refine ⟨pp, _, _, rfl, rfl, s9 _ _ hpp6, hvl, ?_⟩
        exact fin _ _ _ p5 p4 4 _ _ (.inr rfl) s9 upd_same (uN h4' hp5)
      · refine dF c1 ?_
        have em : (((r / (i + 1) / 3 % 256 : Nat) : Int) * 7) % 256 = ((r / (i + 1) / 3 % 256 * 7 % 256 : Nat) : Int) := by omega
        refine ⟨_, rfl, .inl ⟨rfl, _, SqL.of hpp6⟩, _, rfl, by show 1 ≤ sizeLine; decide, fun p1 hp1 => ?_⟩
        refine ⟨_, rfl, rep_use (k := r / (i + 1) / 3 / 256 % L.bs) (v := r / (i + 1) / 3 % 256) upd_same rfl (by omega) fun G2 p2 s2 h2 => ?_⟩
        have s7 : Same H6 G2 := sT (sN (sR H6) hp1) s2
        refine ⟨_, rfl, _, _, rfl, rfl, .inl ⟨by omega, by omega⟩, _, _, rfl, rfl, by omega, by show 1 ≤ sizeLine; decide, fun p3 hp3 => ?_⟩
        have s8 := sN (o := .tup [V.int ((((r / (i + 1) / 3 % 256 : Nat) : Int) * 7) % 256)]) s7 hp3
        refine ⟨_, rfl, lay, _, dl, _, _, rfl, s8 _ _ (s06 _ _ hl), T.cL, T.nL_block_size, rfl, _, rfl, _, _, rfl, rfl, rep_use (k := L.bs - r / (i + 1) / 3 / 256 % L.bs) (v := r / (i + 1) / 3 % 256 * 7 % 256) ?_ (by omega) (by omega) fun G3 p4 s3 h3 => cat_use (s3 _ _ (uN h2 hp3)) h3 (by rw [List.length_replicate, List.length_replicate]; omega) fun G4 p6 s4' h4' => ⟨by show 2 ≤ sizeLine; decide, fun p5 hp5 => ?_⟩⟩
        · rw [upd_same]
          show some (HO.tup [V.int ((((r / (i + 1) / 3 % 256 : Nat) : Int) * 7) % 256)]) = _
          rw [em]; rfl
        have s9 := sN (o := .tup [V.int 3, V.ref p6]) (sT s8 (sT s3 s4')) hp5
        refine ⟨pp, _, _, rfl, rfl, s9 _ _ hpp6, hvl, ?_⟩
        exact fin _ _ _ p5 p6 3 _ _ (.inl rfl) s9 upd_same (uN h4' hp5)
    · rintro σ H4 ⟨v4, v5, v6, v7, vps, pays, rfl, s4, h4, ra, pl, pk⟩
      exact ⟨_, rfl, k H4 pp vps pays s4 hpp h4 ra (by omega) pk⟩
end

end K30

namespace K30
open PySem PySem.Spec PyProof.Rows L2
/-! ## W38: contents as they stand in the law's lists; used ids -/
open K30X
theorem keys_put (kvs : List (Key × V)) (k : Key) (v : V) : (k ∈ kvs.map (·.1) ∧ (putK kvs k v).map (·.1) = kvs.map (·.1)) ∨ (k ∉ kvs.map (·.1) ∧ (putK kvs k v).map (·.1) = kvs.map (·.1) ++ [k]) := by
  unfold putK
  by_cases h : (kvs.any fun kv => decide (kv.1 = k)) = true
  · refine .inl ⟨?_, ?_⟩
    · obtain ⟨p, hp, e⟩ := List.any_eq_true.mp h
      exact List.mem_map.mpr ⟨p, hp, of_decide_eq_true e⟩
    · rw [if_pos h, List.map_map]
      refine List.map_congr_left fun p _ => ?_
      show (if p.1 = k then (p.1, v) else p).1 = p.1
      split <;> rfl
  · refine .inr ⟨fun q => ?_, ?_⟩
    · obtain ⟨p, hp, e⟩ := List.mem_map.mp q
      exact h (List.any_eq_true.mpr ⟨p, hp, decide_eq_true e⟩)
    · rw [if_neg h, List.map_append]; rfl
theorem valV_mem {kvs : List (Key × V)} {k : Key} : (valV kvs k).isSome = true ↔ k ∈ kvs.map (·.1) := by
  unfold valV
  rw [Option.isSome_map, List.find?_isSome]
  constructor
  · rintro ⟨p, hp, e⟩
    exact List.mem_map.mpr ⟨p, hp, of_decide_eq_true e⟩
  · intro q
    obtain ⟨p, hp, e⟩ := List.mem_map.mp q
    exact ⟨p, hp, decide_eq_true e⟩
/-- a dict of contents -/
structure DicR (H : Hp) (d : Addr) (kvs : List (Key × V)) (f : Cont) : Prop where
  h : H d = some (.dK kvs)
  nd : (kvs.map (·.1)).Nodup
  no : ∀ n : Nat, f n = none → valV kvs (Sum.inl (n : Int)) = none
  so : ∀ (n : Nat) (p : Pay), f n = some p → ∃ v, valV kvs (Sum.inl (n : Int)) = some v ∧ PayR H p v
  ky : ∀ k ∈ kvs.map (·.1), ∃ n : Nat, k = Sum.inl (n : Int)
theorem DicR.nil {H : Hp} {d : Addr} (h : H d = some (.dK [])) : DicR H d [] (fun _ => none) := ⟨h, List.nodup_nil, fun _ _ => rfl, fun _ _ e => (by cases e), fun k hk => by cases hk⟩
theorem PayR.same {H H' : Hp} {p : Pay} {v : V} (h : PayR H p v) (s : Same H H') : PayR H' p v := h.tk (TK.of s)
theorem DicR.same {H H' : Hp} {d : Addr} {kvs : List (Key × V)} {f : Cont} (h : DicR H d kvs f) (s : Same H H') : DicR H' d kvs f :=
  ⟨s _ _ h.h, h.nd, h.no, fun n p e => let ⟨v, a, b⟩ := h.so n p e; ⟨v, a, b.same s⟩, h.ky⟩
theorem inlN {a b : Nat} : (Sum.inl (a : Int) : Key) = Sum.inl (b : Int) ↔ a = b := ⟨fun q => by have := Sum.inl.inj q; omega, fun q => by rw [q]⟩
theorem DicR.put {H : Hp} {d : Addr} {kvs : List (Key × V)} {f g : Cont} {n : Nat} {p : Pay} {v : V} (h : DicR H d kvs f) (hp : PayR H p v) (e1 : g n = some p) (e2 : ∀ k, k ≠ n → g k = f k) :
    DicR (upd H d (.dK (putK kvs (Sum.inl (n : Int)) v))) d (putK kvs (Sum.inl (n : Int)) v) g := by
  have tk : TK H (upd H d (.dK (putK kvs (Sum.inl (n : Int)) v))) := TK.upd fun xs e => by rw [h.h] at e; cases e
  refine ⟨upd_same, ?_, fun k e => ?_, fun k q e => ?_, fun k hk => ?_⟩
  · rcases keys_put kvs (Sum.inl (n : Int)) v with ⟨c, e⟩ | ⟨c, e⟩
    · rw [e]; exact h.nd
    · rw [e, List.nodup_append]
      refine ⟨h.nd, by simp, fun a ha b hb => ?_⟩
      rw [List.mem_singleton.mp hb]
      exact fun e => c (e ▸ ha)
  · rw [valV_put]
    have hk : k ≠ n := fun z => by rw [z, e1] at e; cases e
    rw [if_neg (fun z => hk (inlN.mp z))]
    exact h.no k (by rw [← e2 k hk]; exact e)
  · rw [valV_put]
    by_cases hk : k = n
    · subst hk
      rw [e1] at e; cases e
      exact ⟨v, if_pos rfl, hp.tk tk⟩
    · rw [if_neg (fun z => hk (inlN.mp z))]
      obtain ⟨w, a, b⟩ := h.so k q (by rw [← e2 k hk]; exact e)
      exact ⟨w, a, b.tk tk⟩
  · rcases keys_put kvs (Sum.inl (n : Int)) v with ⟨c, e⟩ | ⟨c, e⟩
    · rw [e] at hk; exact h.ky k hk
    · rw [e] at hk
      rcases List.mem_append.mp hk with z | z
      · exact h.ky k z
      · exact ⟨n, List.mem_singleton.mp z⟩
theorem DicR.eqf {H : Hp} {d : Addr} {kvs : List (Key × V)} {f g : Cont} (h : DicR H d kvs f) (e : ∀ k, g k = f k) : DicR H d kvs g := by
  have : g = f := funext e
  rw [this]; exact h
/-- a new dict, still empty or not, in a heap that grows: other objects -/
theorem DicR.oth {H : Hp} {d p : Addr} {kvs : List (Key × V)} {f : Cont} {o : HO} (h : DicR H d kvs f) (hp : p ≠ d) (ht : ∀ xs, H p ≠ some (.tup xs)) : DicR (upd H p o) d kvs f :=
  ⟨by rw [upd_ne (Ne.symm hp)]; exact h.h, h.nd, h.no, fun n q e => let ⟨v, a, b⟩ := h.so n q e; ⟨v, a, b.tk (TK.upd ht)⟩, h.ky⟩
def ConR (H : Hp) (o : Option Cont) (v : V) : Prop := match o with
  | none => v = .non
  | some f => ∃ d kvs, v = .ref d ∧ DicR H d kvs f
theorem ConR.same {H H' : Hp} {o : Option Cont} {v : V} (h : ConR H o v) (s : Same H H') : ConR H' o v := by
  cases o with
  | none => exact h
  | some f => obtain ⟨d, kvs, e, r⟩ := h; exact ⟨d, kvs, e, r.same s⟩
/-- a state of the law -/
def StaR (H : Hp) (A : AS) (l : Addr) : Prop := ∃ vs, H l = some (.lst vs) ∧ All2 (ConR H) A vs ∧ A.length = 4 ∧ ∃ f, A[0]? = some (some f)
theorem StaR.same {H H' : Hp} {A : AS} {l : Addr} (h : StaR H A l) (s : Same H H') : StaR H' A l := by
  obtain ⟨vs, a, b, c, d⟩ := h
  exact ⟨vs, s _ _ a, b.mono fun _ _ z => z.same s, c, d⟩
theorem StaR.fst {H : Hp} {A : AS} {l : Addr} (h : StaR H A l) : ∃ vs d kvs, H l = some (.lst vs) ∧ vs[0]? = some (.ref d) ∧ DicR H d kvs (cur A) ∧ vs.length = 4 := by
  obtain ⟨vs, a, b, c, f, ef⟩ := h
  obtain ⟨v, ev, r⟩ := b.at_ ef
  obtain ⟨d, kvs, rfl, r⟩ := r
  refine ⟨vs, d, kvs, a, ev, ?_, by rw [← b.1]; exact c⟩
  have : cur A = f := by
    cases A with
    | nil => simp at ef
    | cons x r => simp at ef; subst ef; rfl
  rw [this]; exact r
section
variable {P : Program} {w : World} {K : PySem.W.Frag} {mg : Str → Option Value} {base : Heap}
def sp__law_used (K : PySem.W.Frag) : Sp := fun vs H Q _ => ∃ (lay d pi : Addr) (dr : Nat) (L : Lay) (kvs : List (Key × V)) (ids : List Nat), vs = [.ref lay, .ref d, .ref pi, .int (dr : Int)] ∧ LayAt K H lay L ∧ L.Ok ∧ H d = some (.dK kvs) ∧ H pi = some (.lst (nats ids)) ∧
  ∀ H' p us, Same H H' → H p = Option.none → H' p = some (.lst (nats us)) → (∀ k ∈ us, 0 < k ∧ k ≤ L.lastId) → us.length ≤ 1000 → Q (.ref p) H'
theorem sc__law_used : FnScope ["_law_layout_here", "_law_known", "_law_ids_here", "_law_drop", "_law_used_here", "_law_key"] ["_law_layout_here", "_law_known", "_law_ids_here", "_law_drop"] (defScope s__law_used) := ⟨rfl, rfl, rfl, by decide +kernel, rfl, by decide +kernel, by decide +kernel⟩
theorem cal__law_used (T : Txt K mg) (F : FD K mg "_law_used" s__law_used) : C8.Cal P w K mg base 2 "_law_used" (sp__law_used K) [] := by
  obtain ⟨f, fd, F, hm⟩ := F
  refine ⟨f, fd, _, _, F.ok sc__law_used (fun vs H Q E h => ?_) (fun cdv A outer s H vs Q E hr h => ?_), hm, F.kp, F.bindsN (fun _ _ _ _ _ _ us hl => match us, hl with | [_, _, _, _], _ => rfl), .nil⟩
  · obtain ⟨_, _, _, _, _, _, _, rfl, _⟩ := h
    rfl
  · obtain ⟨lay, d, pi, dr, L, kvs, ids, rfl, ⟨dl, hl⟩, O, hd, hpi, k⟩ := h
    obtain ⟨l1, l2⟩ := O.last
    refine ⟨_, PSs.nox (pss_cons (ps_set (i := 4) sc__law_used.nd rfl (Or.inl rfl) (pe_lst pa_nil))
      (pss_cons (ps_for PassesOwn.never rfl (pi_range2 rfl T.b_range (pa_cons pe_int (pa_cons (pe_op op_add (pe_fld (pv 0) rfl) pe_int) pa_nil))) (pg_name (i := 5) sc__law_used.nd rfl (Or.inl rfl)) (pss_one (ps_if (PW.pt (pw_or (pt_cmp (pc_din (hu_of hr) (pv 5) (pv 1))) (pw_or1 (pt_cmpR op_in_seq (pv 5) (pv 2) (by rfl))))) (pss_one (ps_if (pt_cmpR op_gt (pe_op op_mod (pe_callTy call_int1 (by rfl) T.b_int (by decide +kernel) (pa_cons (pe_op op_add (pe_op op_mul (pv 5) pe_int) (pv 3)) pa_nil)) pe_int) pe_int (nomark _)) (pss_one (ps_expr (pe_bm PySem.F.plainAttrs_list PySem.F.slot_list_append PySem.F.type_list_append mt_append (pv 4) (pa_cons (pv 5) pa_nil)))) pss_nil)) pss_nil)))
      (pss_one (ps_ret (pv 4))))), ?_⟩
    refine ⟨Nat.zero_le _, fun pu hpu => ?_⟩
    have s0 := sN (o := .lst []) (sR H) hpu
    have base0 : Same H (upd H pu (.lst [])) := s0
    refine ⟨_, rfl, lay, _, dl, _, _, rfl, s0 _ _ hl, T.cL, T.nL_last_id, rfl, _, _, rfl, rfl, _, _, rfl, ⟨by omega, by omega, by omega, by omega⟩, for_it walk_range (fun i σ H' => ∃ (v5 : Option V) (us : List Nat), σ = [some (.ref lay), some (.ref d), some (.ref pi), some (.int (dr : Int)), some (.ref pu), v5] ∧ Same H H' ∧ H' pu = some (.lst (nats us)) ∧ us.length ≤ i ∧ ∀ k ∈ us, 0 < k ∧ k ≤ L.lastId)
      ⟨none, [], rfl, s0, upd_same, Nat.le_refl _, fun k hk => by cases hk⟩ (fun _ _ _ _ _ => trivial) ?_ ?_⟩
    · rintro i x σ H4 H5 hlt ⟨v5, us, rfl, s4, h4, ul, um⟩ ⟨rfl, rfl⟩
      have ei : (fun (j : Nat) => V.int (1 + (j : Int))) i = V.int ((i + 1 : Nat) : Int) := by
        show V.int (1 + (i : Int)) = _
        rw [show (1 : Int) + (i : Int) = ((i + 1 : Nat) : Int) by omega]
      rw [ei]
      have hil : i < L.lastId := by omega
      have no : ∃ (v5 : Option V) (us : List Nat), ([some (.ref lay), some (.ref d), some (.ref pi), some (.int (dr : Int)), some (.ref pu), some (.int ((i + 1 : Nat) : Int))] : List (Option V)) = [some (.ref lay), some (.ref d), some (.ref pi), some (.int (dr : Int)), some (.ref pu), v5] ∧ Same H H5 ∧ H5 pu = some (.lst (nats us)) ∧ us.length ≤ i + 1 ∧ ∀ k ∈ us, 0 < k ∧ k ≤ L.lastId := ⟨_, us, rfl, s4, h4, by omega, um⟩
      have yes : ∃ (v5 : Option V) (us' : List Nat), ([some (.ref lay), some (.ref d), some (.ref pi), some (.int (dr : Int)), some (.ref pu), some (.int ((i + 1 : Nat) : Int))] : List (Option V)) = [some (.ref lay), some (.ref d), some (.ref pi), some (.int (dr : Int)), some (.ref pu), v5] ∧ Same H (upd H5 pu (.lst (nats us ++ [.int ((i + 1 : Nat) : Int)]))) ∧ upd H5 pu (.lst (nats us ++ [.int ((i + 1 : Nat) : Int)])) pu = some (.lst (nats us')) ∧ us'.length ≤ i + 1 ∧ ∀ k ∈ us', 0 < k ∧ k ≤ L.lastId := by
        refine ⟨_, us ++ [i + 1], rfl, sM s4 hpu, by rw [upd_same, nats_app]; rfl, by rw [List.length_append]; simp; omega, fun k hk => ?_⟩
        rcases List.mem_append.mp hk with z | z
        · exact um k z
        · rw [List.mem_singleton.mp z]; omega
      refine ⟨_, rfl, _, rfl, d, _, rfl, DGet.k (k := Sum.inl ((i + 1 : Nat) : Int)) (s4 _ _ hd), _, rfl, ?_⟩
      have ev : (if false = true then !inV (.int ((i + 1 : Nat) : Int)) (nats ids) else inV (.int ((i + 1 : Nat) : Int)) (nats ids)) = decide (i + 1 ∈ ids) := by rw [if_neg Bool.false_ne_true, inV_nats]
      cases c1 : (valV kvs (Sum.inl ((i + 1 : Nat) : Int))).isSome with
      | true =>
        refine iteT ?_
        refine iteT ?_
        · refine ⟨_, rfl, _, _, rfl, rfl, .inr ⟨by omega, by omega⟩, _, rfl, _, _, rfl, rfl, .inl ⟨_, rfl, _, _, rfl, rfl, by omega, _, _, rfl, rfl, _, rfl, ?_⟩⟩
          by_cases c3 : (0 : Int) < (((i + 1 : Nat) : Int) * 7 + (dr : Int)) % 9
          · refine dT c3 ?_
            exact ⟨_, rfl, .inl ⟨rfl, _, SqL.of h4⟩, _, rfl, pu, _, _, rfl, rfl, h4, sz_lt (by rw [nats_len]; omega), yes⟩
          · refine dF c3 ?_
            exact no
      | false =>
        refine iteF ?_
        refine ⟨_, rfl, _, rfl, pi, _, rfl, .inl (SqL.of (s4 _ _ hpi)), rfl, flat_nats, _, rfl, ?_⟩
        rw [ev]
        by_cases c2 : i + 1 ∈ ids
        · refine dT c2 ?_
          · refine ⟨_, rfl, _, _, rfl, rfl, .inr ⟨by omega, by omega⟩, _, rfl, _, _, rfl, rfl, .inl ⟨_, rfl, _, _, rfl, rfl, by omega, _, _, rfl, rfl, _, rfl, ?_⟩⟩
            by_cases c3 : (0 : Int) < (((i + 1 : Nat) : Int) * 7 + (dr : Int)) % 9
            · refine dT c3 ?_
              exact ⟨_, rfl, .inl ⟨rfl, _, SqL.of h4⟩, _, rfl, pu, _, _, rfl, rfl, h4, sz_lt (by rw [nats_len]; omega), yes⟩
            · refine dF c3 ?_
              exact no
        · refine dF c2 ?_
          exact no
    · rintro σ H4 ⟨v5, us, rfl, s4, h4, ul, um⟩
      exact ⟨_, rfl, k H4 pu us s4 hpu h4 um (by omega)⟩
end

end K30

namespace K30
open PySem PySem.Spec PyProof.Rows L2
/-! ## W39: the state behind a commit -/
open K30X
theorem newC_snoc {A : AS} {ids : List Nat} {pays : List Pay} {us : List Nat} {n : Nat} (k : Nat) (h : k ≠ n) : newC A ids pays (us ++ [n]) k = newC A ids pays us k := by
  unfold newC
  have : (k ∈ us ++ [n]) ↔ k ∈ us := by
    rw [List.mem_append]
    exact ⟨fun q => q.elim id fun z => absurd (List.mem_singleton.mp z) h, .inl⟩
  by_cases c : k ∈ us
  · rw [if_pos c, if_pos (this.mpr c)]
  · rw [if_neg c, if_neg fun q => c (this.mp q)]
theorem newC_self {A : AS} {ids : List Nat} {pays : List Pay} {us : List Nat} {n : Nat} : newC A ids pays (us ++ [n]) n = if n ∈ ids then pays[ids.idxOf n]? else cur A n := by
  unfold newC
  rw [if_pos (List.mem_append_right _ List.mem_cons_self)]
theorem All2.tl {α β : Type} {R : α → β → Prop} {xs : List α} {ys : List β} (h : All2 R xs ys) : All2 R xs.tail (ys.drop 1) := by
  refine ⟨by simp [h.1], fun i x y h1 h2 => ?_⟩
  rw [List.drop_one] at h2
  cases xs with
  | nil => simp at h1
  | cons a r =>
    cases ys with
    | nil => simp at h2
    | cons b s => exact h.2 (i + 1) x y (by simpa using h1) (by simpa using h2)
theorem ConR.updL {H : Hp} {o : Option Cont} {v : V} {p : Addr} {xs : List V} {u : HO} (h : ConR H o v) (hp : H p = some (.lst xs)) : ConR (upd H p u) o v := by
  cases o with
  | none => exact h
  | some f =>
    obtain ⟨d, kvs, e, r⟩ := h
    exact ⟨d, kvs, e, r.oth (fun q => by rw [q, r.h] at hp; cases hp) fun ys q => by rw [hp] at q; cases q⟩
theorem idx_first : ∀ {xs : List Nat} {n m : Nat}, m < xs.idxOf n → xs[m]? ≠ some n
  | [], n, m, h => by simp
  | x :: xs, n, m, h => by
    rw [List.idxOf_cons] at h
    by_cases c : x = n
    · subst c; simp at h
    · have c2 : (x == n) = false := by simp [c]
      rw [c2] at h
      simp at h
      cases m with
      | zero => simp [c]
      | succ m =>
        rw [List.getElem?_cons_succ]
        exact idx_first (by omega)
theorem idx_at {xs : List Nat} {n : Nat} (h : n ∈ xs) : xs[xs.idxOf n]? = some n := by
  have := List.idxOf_lt_length_of_mem h
  rw [List.getElem?_eq_getElem this, List.getElem_idxOf]
theorem flat_all (xs : List Nat) : (nats xs).all flatV = true := by
  unfold nats
  rw [List.all_map, List.all_eq_true]
  intro x _; rfl
section
variable {P : Program} {w : World} {K : PySem.W.Frag} {mg : Str → Option Value} {base : Heap}
def sp__law_after (K : PySem.W.Frag) : Sp := fun vs H Q _ => ∃ (sl pi pp pu : Addr) (act : Nat) (A : AS) (ids us : List Nat) (vps : List V) (pays : List Pay), vs = [.ref sl, .ref pi, .ref pp, .ref pu, .int (act : Int)] ∧ StaR H A sl ∧ H pi = some (.lst (nats ids)) ∧ H pp = some (.lst vps) ∧ All2 (PayR H) pays vps ∧ pays.length = ids.length ∧ H pu = some (.lst (nats us)) ∧ act ≤ 6 ∧ us.length ≤ 1000 ∧
  ∀ H' p, Same H H' → H p = Option.none → StaR H' (afterA A ids pays us act) p → Q (.ref p) H'
theorem sc__law_after : FnScope ["_law_state", "_law_ids_here", "_law_payloads_here", "_law_used_here", "_law_action", "_law_present", "_law_key", "_law_after_here"] ["_law_state", "_law_ids_here", "_law_payloads_here", "_law_used_here", "_law_action"] (defScope s__law_after) := ⟨rfl, rfl, rfl, by decide +kernel, rfl, by decide +kernel, by decide +kernel⟩
theorem cal__law_after (T : Txt K mg) (F : FD K mg "_law_after" s__law_after) : C8.Cal P w K mg base 2 "_law_after" (sp__law_after K) [] := by
  obtain ⟨f, fd, F, hm⟩ := F
  refine ⟨f, fd, _, _, F.ok sc__law_after (fun vs H Q E h => ?_) (fun cdv A outer s H vs Q E hr h => ?_), hm, F.kp, F.bindsN (fun _ _ _ _ _ _ us hl => match us, hl with | [_, _, _, _, _], _ => rfl), .nil⟩
  · obtain ⟨_, _, _, _, _, _, _, _, _, _, rfl, _⟩ := h
    rfl
  · obtain ⟨sl, pi, pp, pu, act, A0, ids, us, vps, pays, rfl, hs, hpi, hpp, ra, pl, hpu, ha, ul, k⟩ := h
    obtain ⟨vs, d0, kvs0, hvs, ev0, r0, v4⟩ := hs.fst
    obtain ⟨vs', hvs', rA, A4, _⟩ := hs
    rw [hvs] at hvs'
    cases hvs'
    refine ⟨_, PSs.nox (pss_cons (ps_set (i := 5) sc__law_after.nd rfl (Or.inl rfl) pe_dnewK)
      (pss_cons (ps_for PassesOwn.never rfl (pi_list (pv 3)) (pg_name (i := 6) sc__law_after.nd rfl (Or.inl rfl)) (pss_one (ps_if (pt_cmpR op_in_seq (pv 6) (pv 1) (by rfl)) (pss_one (ps_dput (hu_of hr) (pv 5) (pv 6) (pe_ix ix_list (pv 2) (pe_bm PySem.F.plainAttrs_list PySem.F.slot_list_index PySem.F.type_list_index mt_index (pv 1) (pa_cons (pv 6) pa_nil)) (fun _ _ => rfl)) rfl)) (pss_one (ps_if (pt_cmp (pc_din (hu_of hr) (pv 6) (pe_ix ix_list (pv 0) pe_int (fun _ _ => rfl)))) (pss_one (ps_dput (hu_of hr) (pv 5) (pv 6) (pe_dget (hu_of hr) (pe_ix ix_list (pv 0) pe_int (fun _ _ => rfl)) (pv 6) (fun _ _ => rfl)) rfl)) pss_nil)))))
      (pss_cons (ps_set (i := 7) sc__law_after.nd rfl (Or.inl rfl) (pe_op op_cat (pe_lst (pa_cons (pv 5) pa_nil)) (pe_slice sl_list (pv 0) (po_some pe_int) po_none)))
      (C8.pss_cut (ps_if (pt_chain op_le op_le pe_int (pv 4) pe_int) (pss_one (ps_asg (pv 5) (pg_sub (pv 7) (pv 4) set_list))) pss_nil)
      (C8.pss_cut (ps_if (pt_cmpR op_ge (pv 4) pe_int (nomark _)) (pss_one (ps_asg pe_non (pg_sub (pv 7) (pe_op op_sub (pv 4) pe_int) set_list))) pss_nil)
      (pss_one (ps_ret (pv 7)))))))), ?_⟩
    intro d hd
    refine ⟨_, rfl, pu, rfl, ⟨_, SqL.of (uN hpu hd)⟩, for_it walk_list (fun i σ H' => ∃ (v6 : Option V) (kvs : List (Key × V)), σ = [some (.ref sl), some (.ref pi), some (.ref pp), some (.ref pu), some (.int (act : Int)), some (.ref d), v6, none] ∧ Same H H' ∧ DicR H' d kvs (newC A0 ids pays (us.take i)) ∧ kvs.length ≤ i)
      ⟨none, [], rfl, sN (sR H) hd, (DicR.nil upd_same).eqf (fun k => if_neg (fun q => by simp at q)), Nat.le_refl _⟩ (fun i σ H' _ ⟨_, _, _, s1, _⟩ => SqL.of (s1 _ _ hpu)) ?_ ?_⟩
    · rintro i x σ H1 H2 hlt ⟨v6, kvs, rfl, s1, r1, kl⟩ ⟨rfl, hx⟩
      obtain ⟨n, en, rfl⟩ := nats_get hx
      rw [nats_len] at hlt
      refine ⟨_, rfl, _, rfl, pi, _, rfl, .inl (SqL.of (s1 _ _ hpi)), rfl, flat_nats, _, rfl, ?_⟩
      have ev : (if false = true then !inV (.int (n : Int)) (nats ids) else inV (.int (n : Int)) (nats ids)) = decide (n ∈ ids) := by rw [if_neg Bool.false_ne_true, inV_nats]
      rw [ev]
      have yes : ∀ (v : V) (p : Pay), newC A0 ids pays (us.take i ++ [n]) n = some p → PayR H2 p v → ∃ (v6 : Option V) (kvs' : List (Key × V)), ([some (.ref sl), some (.ref pi), some (.ref pp), some (.ref pu), some (.int (act : Int)), some (.ref d), some (.int (n : Int)), none] : List (Option V)) = [some (.ref sl), some (.ref pi), some (.ref pp), some (.ref pu), some (.int (act : Int)), some (.ref d), v6, none] ∧ Same H (upd H2 d (.dK (putK kvs (Sum.inl (n : Int)) v))) ∧ DicR (upd H2 d (.dK (putK kvs (Sum.inl (n : Int)) v))) d kvs' (newC A0 ids pays (us.take (i + 1))) ∧ kvs'.length ≤ i + 1 := by
        intro v p e1 hp
        rw [take_snoc en]
        exact ⟨_, _, rfl, sM s1 hd, r1.put hp e1 fun k hk => newC_snoc k hk, by have := length_putK kvs (Sum.inl (n : Int) : Key) v; omega⟩
      by_cases c1 : n ∈ ids
      · refine dT c1 ?_
        have hj := List.idxOf_lt_length_of_mem c1
        have hjp : ids.idxOf n < pays.length := by omega
        obtain ⟨v, hv, rv⟩ := ra.at_ (List.getElem?_eq_getElem hjp)
        refine ⟨_, rfl, _, rfl, .inl ⟨rfl, _, SqL.of (s1 _ _ hpi)⟩, _, rfl, pi, _, _, ids.idxOf n, _, rfl, rfl, SqL.of (s1 _ _ hpi), rfl, flat_all ids, nats_get2 (idx_at c1), by simp [eqV], fun m z hm hz => ?_, ?_⟩
        · obtain ⟨z', ez, rfl⟩ := nats_get hz
          have hne : z' ≠ n := fun q => idx_first hm (by rw [ez, q])
          show (((z' : Nat) : Int) == (n : Int)) = false
          simp [hne]
          omega
        refine ⟨pp, _, _, _, rfl, rfl, SqL.of (s1 _ _ hpp), atI_nat (j := ids.idxOf n) hv, _, rfl, _, rfl, d, _, rfl, DPut.k (k := Sum.inl (n : Int)) r1.h (sz_lt (by omega)), ?_⟩
        refine yes v pays[ids.idxOf n] ?_ (rv.same s1)
        rw [newC_self, if_pos c1, List.getElem?_eq_getElem hjp]
      · refine dF c1 ?_
        refine ⟨_, rfl, _, rfl, sl, _, _, _, rfl, rfl, SqL.of (s1 _ _ hvs), atI_nat (j := 0) ev0, d0, _, rfl, DGet.k (k := Sum.inl (n : Int)) (s1 _ _ r0.h), _, rfl, ?_⟩
        cases ec : cur A0 n with
        | none =>
          rw [r0.no n ec]
          refine iteF ?_
          refine ⟨_, kvs, rfl, s1, r1.eqf fun k => ?_, by omega⟩
          rw [take_snoc en]
          by_cases hk : k = n
          · subst hk
            rw [newC_self, if_neg c1, ec]
            unfold newC
            by_cases c3 : k ∈ us.take i
            · rw [if_pos c3, if_neg c1, ec]
            · rw [if_neg c3]
          · exact newC_snoc k hk
        | some q =>
          obtain ⟨v, hv, rv⟩ := r0.so n q ec
          rw [hv]
          refine iteT ?_
          have hg : DGet H2 d0 (.int (n : Int)) (some v) := by
            have := DGet.k (k := (Sum.inl (n : Int) : Key)) (s1 _ _ r0.h)
            rw [hv] at this
            exact this
          refine ⟨_, rfl, sl, _, _, _, rfl, rfl, SqL.of (s1 _ _ hvs), atI_nat (j := 0) ev0, _, rfl, d0, v, rfl, hg, _, rfl, _, rfl, d, _, rfl, DPut.k (k := Sum.inl (n : Int)) r1.h (sz_lt (by omega)), ?_⟩
          refine yes v q ?_ (rv.same s1)
          rw [newC_self, if_neg c1, ec]
    · rintro σ H1 ⟨v6, kvs, rfl, s1, r1, kl⟩
      rw [nats_len, List.take_length] at r1
      refine ⟨_, rfl, by show 1 ≤ sizeLine; decide, fun p1 hp1 => ?_⟩
      have s2 := sN (o := .lst [.ref d]) s1 hp1
      refine ⟨_, rfl, _, rfl, sl, _, rfl, SqL.of (s2 _ _ hvs), fun p2 hp2 => ?_⟩
      have s3 := sN (o := .lst (cutV vs (some 1) none)) s2 hp2
      refine ⟨p1, p2, _, _, rfl, rfl, uN upd_same hp2, upd_same, ?_, fun p hp => ?_⟩
      · rw [show (some 1 : Option Int) = some ((1 : Nat) : Int) from rfl, cutV_from]
        exact sz_ok (by simp; omega)
      rw [show (some 1 : Option Int) = some ((1 : Nat) : Int) from rfl, cutV_from] at hp ⊢
      generalize hc : newC A0 ids pays us = c at r1
      have hpH : H p = Option.none := by
        have h3' : upd (upd H1 p1 (.lst [.ref d])) p2 (.lst (vs.drop 1)) p = Option.none := hp
        exact sF (sN (o := .lst (vs.drop 1)) s2 hp2) h3'
      have sA : Same H1 (upd (upd (upd H1 p1 (.lst [.ref d])) p2 (.lst (vs.drop 1))) p (.lst ([.ref d] ++ vs.drop 1))) := sN (sN (sN (sR H1) hp1) hp2) hp
      have sB := sT s1 sA
      have lenX : (some c :: A0.tail).length = 4 := by rw [List.length_cons, List.length_tail]; omega
      have hX : All2 (ConR (upd (upd (upd H1 p1 (.lst [.ref d])) p2 (.lst (vs.drop 1))) p (.lst ([.ref d] ++ vs.drop 1)))) (some c :: A0.tail) ([.ref d] ++ vs.drop 1) :=
        All2.cons ⟨d, kvs, rfl, r1.same sA⟩ (rA.tl.mono fun _ _ z => z.same sB)
      refine ⟨fun σ G => ∃ (B : AS) (ws : List V), σ = [some (.ref sl), some (.ref pi), some (.ref pp), some (.ref pu), some (.int (act : Int)), some (.ref d), v6, some (.ref p)] ∧ Same H G ∧ G p = some (.lst ws) ∧ All2 (ConR G) B ws ∧ B.length = 4 ∧ B[0]? = some (some c) ∧ DicR G d kvs c ∧ B = (if 1 ≤ act ∧ act ≤ 3 then (some c :: A0.tail).set act (some c) else some c :: A0.tail), ?_, ?_⟩
      · refine ⟨_, rfl, _, _, rfl, rfl, _, rfl, ?_⟩
        by_cases c1 : (1 : Int) ≤ (act : Int)
        · refine dT c1 ?_
          refine ⟨_, _, rfl, rfl, _, rfl, ?_⟩
          by_cases c2 : (act : Int) ≤ 3
          · refine dT c2 ?_
            have hal : act < ([V.ref d] ++ vs.drop 1).length := by rw [← hX.1]; omega
            refine ⟨_, rfl, _, rfl, _, rfl, p, _, _, act, rfl, rfl, upd_same, ixN_nat rfl hal, ?_⟩
            have np : p ≠ d := fun q => by
              have := (r1.same sA).h
              rw [← q, upd_same] at this
              cases this
            have r2 := (r1.same sA).oth (o := .lst (([V.ref d] ++ vs.drop 1).set act (.ref d))) np fun ys q => by rw [upd_same] at q; cases q
            refine ⟨(some c :: A0.tail).set act (some c), _, rfl, sM sB hpH, upd_same, (hX.mono fun _ _ z => z.updL upd_same).set ⟨d, kvs, rfl, r2⟩, by rw [List.length_set]; exact lenX, ?_, r2, (if_pos ⟨by omega, by omega⟩).symm⟩
            rw [List.getElem?_set_ne (by omega)]; rfl
          · refine dF c2 ?_
            exact ⟨_, _, rfl, sB, upd_same, hX, lenX, rfl, r1.same sA, (if_neg fun q => c2 (by omega)).symm⟩
        · refine dF c1 ?_
          refine ⟨_, rfl, ?_⟩
          exact iteF ⟨_, _, rfl, sB, upd_same, hX, lenX, rfl, r1.same sA, (if_neg fun q => c1 (by omega)).symm⟩
      rintro σ G ⟨B, ws, rfl, sG, hG, hB, lB, fB, rG, eB⟩
      refine ⟨fun σ G' => ∃ (B' : AS) (ws : List V), σ = [some (.ref sl), some (.ref pi), some (.ref pp), some (.ref pu), some (.int (act : Int)), some (.ref d), v6, some (.ref p)] ∧ Same H G' ∧ G' p = some (.lst ws) ∧ All2 (ConR G') B' ws ∧ B'.length = 4 ∧ B'[0]? = some (some c) ∧ B' = afterA A0 ids pays us act, ?_, ?_⟩
      · refine ⟨_, rfl, _, _, rfl, rfl, _, rfl, ?_⟩
        by_cases c1 : (4 : Int) ≤ (act : Int)
        · refine dT c1 ?_
          have hal : act - 3 < ws.length := by rw [← hB.1]; omega
          refine ⟨_, rfl, _, rfl, _, _, rfl, rfl, p, _, _, act - 3, rfl, rfl, hG, ixN_nat (by omega) hal, ?_⟩
          refine ⟨B.set (act - 3) none, _, rfl, sM sG hpH, upd_same, (hB.mono fun _ _ z => z.updL hG).set rfl, by rw [List.length_set]; exact lB, ?_, ?_⟩
          · rw [List.getElem?_set_ne (by omega)]; exact fB
          · rw [eB]
            unfold afterA
            rw [hc, if_neg (by omega), if_neg (by omega), if_pos (by omega)]
        · refine dF c1 ?_
          refine ⟨B, ws, rfl, sG, hG, hB, lB, fB, ?_⟩
          rw [eB]
          unfold afterA
          rw [hc, if_neg (show ¬ 4 ≤ act by omega)]
      rintro σ G' ⟨B', ws', rfl, sG', hG', hB', lB', fB', eB'⟩
      exact ⟨_, rfl, k G' p sG' hpH ⟨ws', hG', by rw [← eB']; exact hB', by rw [← eB']; exact lB', c, by rw [← eB']; exact fB'⟩⟩
end

end K30

namespace K30
open PySem PySem.Spec PyProof.Rows L2
/-! ## W40: what a log holds, read -/
open K30X
theorem contL_map {rd : Rd} {ls : LS} : contL rd ls = (some ls.present :: ls.slots).map (Option.map (contT rd)) := rfl
theorem DicR.but {H H' : Hp} {d x : Addr} {kvs : List (Key × V)} {f : Cont} (h : DicR H d kvs f) (b : But x H H') (hx : ∃ xs, H x = some (.lst xs)) : DicR H' d kvs f := by
  obtain ⟨xs, hx⟩ := hx
  have tk : TK H H' := fun a ys e => b a _ (fun q => by rw [q, hx] at e; cases e) e
  exact ⟨b _ _ (fun q => by rw [← q, h.h] at hx; cases hx) h.h, h.nd, h.no, fun n p e => let ⟨v, a, c⟩ := h.so n p e; ⟨v, a, c.tk tk⟩, h.ky⟩
theorem ConR.but {H H' : Hp} {o : Option Cont} {v : V} {x : Addr} (h : ConR H o v) (b : But x H H') (hx : ∃ xs, H x = some (.lst xs)) : ConR H' o v := by
  cases o with
  | none => exact h
  | some f => obtain ⟨d, kvs, e, r⟩ := h; exact ⟨d, kvs, e, r.but b hx⟩
def upTo (f : Cont) (j : Nat) : Cont := fun k => if k < j then f k else none
section
variable {P : Program} {w : World} {K : PySem.W.Frag} {mg : Str → Option Value} {base : Heap}
def sp__law_contents (K : PySem.W.Frag) : Sp := fun vs H Q _ => ∃ (lg dv lay : Addr) (H0 : Hp) (L : Lay) (st : St), vs = [.ref lg] ∧ LogO K H0 H lg dv lay L st ∧ L.Ok ∧ LOK L st.rd st.ls ∧ (∀ a b, st.rd a = some b → b.Wt L) ∧
  ∀ H' p, Same H H' → H p = Option.none → StaR H' (contL st.rd st.ls) p → Q (.ref p) H'
theorem sc__law_contents : FnScope ["_law_log", "_law_found", "_law_table", "_law_contents_here", "_law_key", "_law_block"] ["_law_log"] (defScope s__law_contents) := ⟨rfl, rfl, rfl, by decide +kernel, rfl, by decide +kernel, by decide +kernel⟩
theorem cal__law_contents (T : Txt K mg) (F : FD K mg "_law_contents" s__law_contents) (c_Device_read : C8.Met P w K mg base 1 (CD K) "read" (sp_Device_read K) []) : C8.Cal P w K mg base 2 "_law_contents" (sp__law_contents K) [] := by
  obtain ⟨f, fd, F, hm⟩ := F
  refine ⟨f, fd, _, _, F.ok sc__law_contents (fun vs H Q E h => ?_) (fun cdv A outer s H vs Q E hr h => ?_), hm, F.kp, F.bindsN (fun _ _ _ _ _ _ us hl => match us, hl with | [_], _ => rfl), .nil⟩
  · obtain ⟨_, _, _, _, _, _, rfl, _⟩ := h
    rfl
  · obtain ⟨lg, dv, lay, H0, L, st, rfl, h, O, ok, hw, k⟩ := h
    obtain ⟨H1, q, w, y⟩ := h.opn
    obtain ⟨pd, hpd⟩ := w.hd
    have l465 := O.last
    refine ⟨_, PSs.nox (pss_cons (ps_set (i := 1) sc__law_contents.nd rfl (Or.inl rfl) (pe_lst pa_nil))
      (pss_cons (ps_for PassesOwn.never rfl (pi_list (pe_op op_cat (pe_lst (pa_cons (pe_fld (pv 0) rfl) pa_nil)) (pe_fld (pv 0) rfl))) (pg_name (i := 2) sc__law_contents.nd rfl (Or.inl rfl)) (pss_one (ps_if (pt_cmpR op_isN (pv 2) pe_non (nomark _)) (pss_one (ps_expr (pe_bm PySem.F.plainAttrs_list PySem.F.slot_list_append PySem.F.type_list_append mt_append (pv 1) (pa_cons pe_non pa_nil)))) (pss_cons (ps_set (i := 3) sc__law_contents.nd rfl (Or.inl rfl) pe_dnewK)
      (pss_cons (ps_for PassesOwn.never rfl (pi_range1 rfl T.b_range (pa_cons (pe_callB call_len_seq (by rfl) T.b_len PySem.boot_len (pa_cons (pv 2) pa_nil)) pa_nil)) (pg_name (i := 4) sc__law_contents.nd rfl (Or.inl rfl)) (pss_one (ps_if (pt_cmpR op_ne (pe_ix ix_list (pv 2) (pv 4) (fun _ _ => rfl)) pe_int (nomark _)) (pss_cons (ps_set (i := 5) sc__law_contents.nd rfl (Or.inl rfl) (C8.pe_mt c_Device_read hr (by decide) (pe_fld (pv 0) rfl) (pa_cons (pe_ix ix_list (pv 2) (pv 4) (fun _ _ => rfl)) pa_nil)))
      (pss_one (ps_if (PW.pt (pw_or (pt_cmpR op_isN (pv 5) pe_non (nomark _)) (pw_or1 (pt_cmpR op_notIn_seq (pe_ix ix_tup (pv 5) pe_int (fun _ _ => rfl)) (pe_lst (pa_cons pe_int (pa_cons pe_int pa_nil))) (by rfl))))) (pss_one (ps_dput (hu_of hr) (pv 3) (pv 4) pe_non rfl)) (pss_one (ps_dput (hu_of hr) (pv 3) (pv 4) (pe_tup (pa_cons (pe_ix ix_tup (pv 5) pe_int (fun _ _ => rfl)) (pa_cons (pe_ix ix_tup (pv 5) pe_int (fun _ _ => rfl)) pa_nil))) rfl))))) pss_nil)))
      (pss_one (ps_expr (pe_bm PySem.F.plainAttrs_list PySem.F.slot_list_append PySem.F.type_list_append mt_append (pv 1) (pa_cons (pv 3) pa_nil)))))))))
      (pss_one (ps_ret (pv 1))))), ?_⟩
    refine ⟨Nat.zero_le _, fun pf hpf => ?_⟩
    have s1 : Same H (upd H pf (.lst [])) := sN (sR H) hpf
    have w1 := w.new s1
    refine ⟨_, rfl, lg, _, q.dx, _, _, rfl, w1.h0, T.cG, T.nG_present, rfl, by show 1 ≤ sizeLine; decide, fun p0 hp0 => ?_⟩
    have w2 := w1.new (sN (o := .lst [.ref q.pr]) (sR _) hp0)
    refine ⟨_, rfl, lg, _, q.dx, _, _, rfl, w2.h0, T.cG, T.nG_slots, rfl, p0, q.sl, _, _, rfl, rfl, upd_same, w2.hs, ?_, fun p1 hp1 => ?_⟩
    · rw [List.length_singleton, ← w2.hr.1, ok.slen]; exact by decide
    have w3 := w2.new (sN (o := .lst ([.ref q.pr] ++ q.vsl)) (sR _) hp1)
    have s3 : Same H (upd (upd (upd H pf (.lst [])) p0 (.lst [.ref q.pr])) p1 (.lst ([.ref q.pr] ++ q.vsl))) := sN (sN s1 hp0) hp1
    have hpf3 : upd (upd (upd H pf (.lst [])) p0 (.lst [.ref q.pr])) p1 (.lst ([.ref q.pr] ++ q.vsl)) pf = some (.lst []) := uN (uN upd_same hp0) hp1
    have hr3 : All2 (SlR (upd (upd (upd H pf (.lst [])) p0 (.lst [.ref q.pr])) p1 (.lst ([.ref q.pr] ++ q.vsl)))) (some st.ls.present :: st.ls.slots) (.ref q.pr :: q.vsl) := All2.cons ⟨q.pr, rfl, w3.hp⟩ w3.hr
    have np : p1 ≠ pf := fun e => by rw [e, show upd (upd H pf (.lst [])) p0 (.lst [.ref q.pr]) pf = some (.lst []) from uN upd_same hp0] at hp1; cases hp1
    have hr0 : All2 (SlR H) (some st.ls.present :: st.ls.slots) (.ref q.pr :: q.vsl) := All2.cons ⟨q.pr, rfl, w.hp⟩ w.hr
    let G := upd (upd (upd H pf (.lst [])) p0 (.lst [.ref q.pr])) p1 (.lst ([.ref q.pr] ++ q.vsl))
    let os := some st.ls.present :: st.ls.slots
    have hosl : os.length = 4 := by show st.ls.slots.length + 1 = 4; rw [ok.slen]
    refine ⟨p1, rfl, ⟨_, SqL.of upd_same⟩, for_it walk_list (fun i σ H' => ∃ (v2 v3 v4 v5 : Option V) (ws : List V), σ = [some (.ref lg), some (.ref pf), v2, v3, v4, v5] ∧ Same H H' ∧ But pf G H' ∧ H' pf = some (.lst ws) ∧ All2 (ConR H') ((contL st.rd st.ls).take i) ws)
      ⟨none, none, none, none, [], rfl, s3, bR, hpf3, by rw [List.take_zero]; exact .nil⟩ (fun i σ H' _ ⟨_, _, _, _, _, _, _, b, _⟩ => SqL.of (b p1 _ np upd_same)) ?_ ?_⟩
    · rintro i x σ H2 H3 hlt ⟨v2, v3, v4, v5, ws, rfl, s2, b2, h2, ra⟩ ⟨rfl, hx⟩
      have hi4 : i < 4 := by rw [← hosl, hr3.1]; exact hlt
      obtain ⟨o, ho⟩ : ∃ o, os[i]? = some o := ⟨_, List.getElem?_eq_getElem (by rw [hosl]; exact hi4)⟩
      have ro := hr3.2 i o x ho hx
      have hc : (contL st.rd st.ls)[i]? = some (o.map (contT st.rd)) := by rw [contL_map, List.getElem?_map, ho]; rfl
      have tks := take_snoc hc
      have wl : ws.length < 100 := by rw [← ra.1, List.length_take]; omega
      cases o with
      | none =>
        have ex : x = .non := ro
        subst ex
        refine ⟨_, rfl, rfl, _, rfl, ?_⟩
        refine dT rfl ?_
        refine ⟨_, rfl, .inl ⟨rfl, _, SqL.of h2⟩, pf, _, _, rfl, rfl, h2, Nat.lt_of_lt_of_le wl (by decide), ?_⟩
        refine ⟨_, _, _, _, _, rfl, sM s2 hpf, bX b2, upd_same, ?_⟩
        rw [tks]
        exact (ra.mono fun _ _ z => z.updL h2).snoc rfl
      | some t =>
        obtain ⟨pt, rfl, hpt⟩ := ro
        refine ⟨_, rfl, rfl, _, rfl, ?_⟩
        refine dF (fun z => by cases z) ?_
        have npt : pt ≠ pf := fun e => by
          obtain ⟨p', e', hp'⟩ := (show SlR H (some t) (.ref pt) from hr0.2 i _ _ ho hx)
          cases e'
          rw [e, hpf] at hp'
          cases hp'
        have hpt3 := b2 pt _ npt hpt
        have htm : t ∈ tabs st.ls := by
          rcases List.mem_cons.mp (List.mem_of_getElem? ho) with e | e
          · cases e; exact tabs_p
          · exact tabs_s e
        have htl : t.length ≤ 1000 := by rw [ok.tl t htm]; omega
        intro d hd
        refine ⟨_, rfl, pt, _, rfl, .inl (SqL.of (uN hpt3 hd)), _, rfl, by rw [nats_len]; omega, by rw [nats_len]; omega, for_it walk_range (fun j σ H' => ∃ (v4 v5 : Option V) (kvs : List (Key × V)), σ = [some (.ref lg), some (.ref pf), some (.ref pt), some (.ref d), v4, v5] ∧ Same H3 H' ∧ DicR H' d kvs (upTo (contT st.rd t) j) ∧ kvs.length ≤ j)
          ⟨_, _, [], rfl, sN (sR H3) hd, (DicR.nil upd_same).eqf (fun k => if_neg (Nat.not_lt_zero k)), Nat.le_refl _⟩ (fun _ _ _ _ _ => trivial) ?_ ?_⟩
        · rintro j x σ H4 H5 hlt2 ⟨v4', v5', kvs, rfl, s4, r4, kl⟩ ⟨rfl, rfl⟩
          have ei : (fun (j : Nat) => V.int (0 + (j : Int))) j = V.int (j : Int) := by
            show V.int (0 + (j : Int)) = _
            rw [Int.zero_add]
          rw [ei]
          have hj : j < t.length := by rw [nats_len] at hlt2; omega
          have sAll := sT s2 s4
          have snoc : ∀ k, k ≠ j → upTo (contT st.rd t) (j + 1) k = upTo (contT st.rd t) j k := fun k hk => by
            unfold upTo
            by_cases c : k < j
            · rw [if_pos c, if_pos (by omega)]
            · rw [if_neg c, if_neg (by omega)]
          have self : upTo (contT st.rd t) (j + 1) j = contT st.rd t j := if_pos (Nat.lt_succ_self j)
          have gd : t.getD j 0 = t[j] := getD_lt hj
          refine ⟨_, rfl, _, rfl, pt, _, _, _, rfl, rfl, SqL.of (s4 _ _ hpt3), atI_nat (j := j) (nats_at hj), rfl, _, rfl, ?_⟩
          by_cases c : t[j] = 0
          · refine dNF (show V.int ((t[j] : Nat) : Int) = V.int 0 by rw [c]; rfl) ?_
            refine ⟨_, _, kvs, rfl, s4, r4.eqf fun k => ?_, by omega⟩
            by_cases hk : k = j
            · subst hk
              rw [self]
              unfold contT upTo
              rw [gd, if_pos c, if_neg (Nat.lt_irrefl _)]
            · exact snoc k hk
          · refine dNT (fun z => c (by injection z; omega)) ?_
            have lv : Live st.ls t[j] := ⟨c, t, htm, List.getElem_mem hj⟩
            have py := ok.py _ lv
            obtain ⟨b, eb, hk⟩ : ∃ b, st.rd t[j] = some b ∧ (b.kind = 3 ∨ b.kind = 4) := by
              unfold payAt at py
              cases e : st.rd t[j] with
              | none => rw [e] at py; cases py
              | some b =>
                rw [e] at py
                by_cases hk : b.kind = 3 ∨ b.kind = 4
                · exact ⟨b, rfl, hk⟩
                · simp [hk] at py
            obtain ⟨xs, ex⟩ := flat_of (hw _ b eb) (by omega)
            have ec : contT st.rd t j = some (b.kind, xs) := by
              unfold contT payAt
              rw [gd, if_neg c, eb]
              simp [hk, ex, Body.xs]
            have w4 := w.new sAll
            refine ⟨_, rfl, lg, _, q.dx, _, _, rfl, w4.h0, T.cG, T.nG_device, rfl, dv, _, _, rfl, sAll _ _ hpd, rfl, _, rfl, _, rfl, pt, _, _, _, rfl, rfl, SqL.of (s4 _ _ hpt3), atI_nat (j := j) (nats_at hj), dv, lay, _, st.dev, t[j], rfl, w4.d, fun v hv => ?_⟩
            rw [show rdl st.dev.seen t[j] = some b from eb] at hv
            obtain ⟨tk, rfl, tb, ht, hb⟩ := hv
            rw [ex] at hb
            refine ⟨_, rfl, rfl, _, rfl, ?_⟩
            refine dF (fun z => by cases z) ?_
            refine ⟨_, rfl, tk, _, _, _, rfl, rfl, SqT.of ht, atI_nat (j := 0) rfl, by show 2 ≤ sizeLine; decide, fun pl hpl => ?_⟩
            have s5 := sN (o := .lst [V.int 3, V.int 4]) (sR H5) hpl
            refine ⟨pl, _, rfl, .inl (SqL.of upd_same), rfl, flat_nats (ks := [3, 4]), _, rfl, ?_⟩
            have ev : (if true = true then !inV (.int (b.kind : Int)) (nats [3, 4]) else inV (.int (b.kind : Int)) (nats [3, 4])) = !decide (b.kind ∈ [3, 4]) := by rw [if_pos rfl, inV_nats]
            rw [show ([V.int 3, V.int 4] : List V) = nats [3, 4] from rfl]
            rw [ev]
            refine dNF (by simp; exact hk) ?_
            refine ⟨_, rfl, tk, _, _, _, rfl, rfl, SqT.of (s5 _ _ ht), atI_nat (j := 0) rfl, _, rfl, tk, _, _, _, rfl, rfl, SqT.of (s5 _ _ ht), atI_nat (j := 3) rfl, by show 2 ≤ sizeLine; decide, fun p2 hp2 => ?_⟩
            have s7 := sN (o := .tup [V.int (b.kind : Int), V.ref tb]) s5 hp2
            refine ⟨_, rfl, _, rfl, d, _, rfl, DPut.k (k := Sum.inl (j : Int)) (s7 _ _ r4.h) (sz_lt (by omega)), ?_⟩
            refine ⟨_, _, _, rfl, sM (sT s4 s7) hd, (r4.same s7).put (p := (b.kind, xs)) ⟨p2, tb, rfl, upd_same, s7 _ _ hb⟩ (by rw [self]; exact ec) snoc, by have := length_putK kvs (Sum.inl (j : Int) : Key) (.ref p2); omega⟩
        · rintro σ H4 ⟨v4', v5', kvs, rfl, s4, r4, kl⟩
          have r5 : DicR H4 d kvs (contT st.rd t) := r4.eqf fun k => by
            unfold upTo
            by_cases c : k < t.length
            · rw [if_pos (by rw [nats_len]; omega)]
            · rw [if_neg (by rw [nats_len]; omega)]
              unfold contT
              rw [getD_ge (by omega), if_pos rfl]
          refine ⟨_, rfl, .inl ⟨rfl, _, SqL.of (s4 _ _ h2)⟩, _, rfl, pf, _, _, rfl, rfl, s4 _ _ h2, Nat.lt_of_lt_of_le wl (by decide), ?_⟩
          refine ⟨_, _, _, _, _, rfl, sM (sT s2 s4) hpf, bX (fun b o nb e => s4 _ _ (b2 b o nb e)), upd_same, ?_⟩
          rw [tks]
          have h4 := s4 _ _ h2
          refine (ra.mono fun _ _ z => (z.same s4).updL h4).snoc ?_
          exact ConR.updL (o := some (contT st.rd t)) ⟨d, kvs, rfl, r5⟩ h4
    · rintro σ H2 ⟨v2, v3, v4, v5, ws, rfl, s2, b2, h2, ra⟩
      have hL4 : ([V.ref q.pr] ++ q.vsl).length = 4 := by rw [← hosl]; exact hr3.1.symm
      have l4 : (contL st.rd st.ls).length = 4 := by rw [contL_map, List.length_map]; exact hosl
      rw [hL4, List.take_of_length_le (Nat.le_of_eq l4)] at ra
      exact ⟨_, rfl, k H2 pf s2 hpf ⟨ws, h2, ra, l4, _, rfl⟩⟩
end

end K30

namespace K30
open PySem PySem.Spec PyProof.Rows L2
/-! ## W41: live addresses in the law's words; soundness of the points; fates -/
open K30X
section
variable {P : Program} {w : World} {K : PySem.W.Frag} {mg : Str → Option Value} {base : Heap}
def sp__law_live (K : PySem.W.Frag) : Sp := fun vs H Q _ => ∃ (lg dv lay : Addr) (H0 : Hp) (L : Lay) (st : St), vs = [.ref lg] ∧ LogO K H0 H lg dv lay L st ∧ st.ls.slots.length = 3 ∧ (∀ t ∈ tabs st.ls, t.length ≤ 1000) ∧
  ∀ H' p ys, Same H H' → H p = Option.none → H' p = some (.lst (nats ys)) → (∀ a, a ∈ ys ↔ Live st.ls a) → ys.Nodup → ys.length ≤ 4000 → Q (.ref p) H'
theorem sc__law_live : FnScope ["_law_log", "_law_found", "_law_table", "_law_address"] ["_law_log"] (defScope s__law_live) := ⟨rfl, rfl, rfl, by decide +kernel, rfl, by decide +kernel, by decide +kernel⟩
theorem cal__law_live (T : Txt K mg) (F : FD K mg "_law_live" s__law_live) : C8.Cal P w K mg base 1 "_law_live" (sp__law_live K) [] := by
  obtain ⟨f, fd, F, hm⟩ := F
  refine ⟨f, fd, _, _, F.ok sc__law_live (fun vs H Q E h => ?_) (fun cdv A outer s H vs Q E hr h => ?_), hm, F.kp, F.bindsN (fun _ _ _ _ _ _ us hl => match us, hl with | [_], _ => rfl), .nil⟩
  · obtain ⟨_, _, _, _, _, _, rfl, _⟩ := h
    rfl
  · obtain ⟨lg, dv, lay, H0, L, st, rfl, h, h3, hlen, k⟩ := h
    obtain ⟨H1, q, w, y⟩ := h.opn
    refine ⟨_, PSs.nox (pss_cons (ps_set (i := 1) sc__law_live.nd rfl (Or.inl rfl) pe_dnewK)
      (pss_cons (ps_for PassesOwn.never rfl (pi_list (pe_op op_cat (pe_lst (pa_cons (pe_fld (pv 0) rfl) pa_nil)) (pe_fld (pv 0) rfl))) (pg_name (i := 2) sc__law_live.nd rfl (Or.inl rfl)) (pss_one (ps_if (pt_cmpR op_notN (pv 2) pe_non (nomark _)) (pss_one (ps_for PassesOwn.never rfl (pi_list (pv 2)) (pg_name (i := 3) sc__law_live.nd rfl (Or.inl rfl)) (pss_one (ps_if (pt_cmpR op_ne (pv 3) pe_int (nomark _)) (pss_one (ps_dput (hu_of hr) (pv 1) (pv 3) pe_bl rfl)) pss_nil)))) pss_nil)))
      (pss_one (ps_ret (pe_callB (call_sortedDA rfl) (by rfl) T.b_sorted (by decide +kernel) (pa_cons (pv 1) pa_nil)))))), ?_⟩
    intro d hd
    have s1 : Same H (upd H d (.dK [])) := sN (sR H) hd
    have w1 := w.new s1
    refine ⟨_, rfl, lg, _, q.dx, _, _, rfl, w1.h0, T.cG, T.nG_present, rfl, by show 1 ≤ sizeLine; decide, fun p0 hp0 => ?_⟩
    have w2 := w1.new (sN (o := .lst [.ref q.pr]) (sR _) hp0)
    refine ⟨_, rfl, lg, _, q.dx, _, _, rfl, w2.h0, T.cG, T.nG_slots, rfl, p0, q.sl, _, _, rfl, rfl, upd_same, w2.hs, ?_, fun p1 hp1 => ?_⟩
    · rw [List.length_singleton, ← w2.hr.1, h3]; exact by decide
    have w3 := w2.new (sN (o := .lst ([.ref q.pr] ++ q.vsl)) (sR _) hp1)
    have s3 : Same H (upd (upd (upd H d (.dK [])) p0 (.lst [.ref q.pr])) p1 (.lst ([.ref q.pr] ++ q.vsl))) := sN (sN s1 hp0) hp1
    have hd3 : upd (upd (upd H d (.dK [])) p0 (.lst [.ref q.pr])) p1 (.lst ([.ref q.pr] ++ q.vsl)) d = some (.dK []) := uN (uN upd_same hp0) hp1
    have hr3 : All2 (SlR (upd (upd (upd H d (.dK [])) p0 (.lst [.ref q.pr])) p1 (.lst ([.ref q.pr] ++ q.vsl)))) (some st.ls.present :: st.ls.slots) (.ref q.pr :: q.vsl) := All2.cons ⟨q.pr, rfl, w3.hp⟩ w3.hr
    have hsz : ∀ t, some t ∈ (some st.ls.present :: st.ls.slots) → t.length ≤ 1000 := fun t ht => by
      rcases List.mem_cons.mp ht with e | ht
      · cases e; exact hlen _ tabs_p
      · exact hlen _ (tabs_s ht)
    have np : p1 ≠ d := fun e => by rw [e, show upd (upd H d (.dK [])) p0 (.lst [.ref q.pr]) d = some (.dK []) from uN upd_same hp0] at hp1; cases hp1
    let G := upd (upd (upd H d (.dK [])) p0 (.lst [.ref q.pr])) p1 (.lst ([.ref q.pr] ++ q.vsl))
    let os := some st.ls.present :: st.ls.slots
    have hosl : os.length = 4 := by show st.ls.slots.length + 1 = 4; rw [h3]
    refine ⟨p1, rfl, ⟨_, SqL.of upd_same⟩, for_it walk_list (fun i σ H' => ∃ (v2 v3 : Option V) (kvs : List (Key × V)) (ks : List Nat), σ = [some (.ref lg), some (.ref d), v2, v3] ∧ Same H H' ∧ But d G H' ∧ H' d = some (.dK kvs) ∧ DS kvs ks ∧ ks.Nodup ∧ ks.length ≤ i * 1000 ∧ ∀ a, a ∈ ks ↔ a ≠ 0 ∧ ∃ t, some t ∈ os.take i ∧ a ∈ t)
      ⟨none, none, [], [], rfl, s3, bR, hd3, DS.nil, List.nodup_nil, Nat.zero_le _, fun a => by simp⟩ (fun i σ H' _ ⟨_, _, _, _, _, _, b, _⟩ => SqL.of (b p1 _ np upd_same)) ?_ ?_⟩
    · rintro i x σ H2 H3 hlt ⟨v2, v3, kvs, ks, rfl, s2, b2, h2, ds, nd, ln, mm⟩ ⟨rfl, hx⟩
      have hi4 : i < 4 := by rw [← hosl, hr3.1]; exact hlt
      obtain ⟨o, ho⟩ : ∃ o, os[i]? = some o := ⟨_, List.getElem?_eq_getElem (by rw [hosl]; exact hi4)⟩
      have ro := hr3.2 i o x ho hx
      have tks := take_snoc ho
      cases o with
      | none =>
        have ex : x = .non := ro
        subst ex
        refine ⟨_, rfl, rfl, _, rfl, ?_⟩
        refine iteF ?_
        refine ⟨_, _, kvs, ks, rfl, s2, b2, h2, ds, nd, by omega, fun a => ?_⟩
        rw [mm a, tks]
        simp
      | some t =>
        obtain ⟨pt, rfl, hpt⟩ := ro
        refine ⟨_, rfl, rfl, _, rfl, ?_⟩
        refine iteT ?_
        have npt : pt ≠ d := fun e => by
          have z := hd3.symm.trans (e ▸ hpt)
          cases z
        have hpt3 := b2 pt _ npt hpt
        have htl : t.length ≤ 1000 := hsz t (List.mem_of_getElem? ho)
        refine ⟨_, rfl, pt, rfl, ⟨_, SqL.of hpt3⟩, for_it walk_list (fun j σ H' => ∃ (v3 : Option V) (kvs : List (Key × V)) (ks : List Nat), σ = [some (.ref lg), some (.ref d), some (.ref pt), v3] ∧ Same H H' ∧ But d G H' ∧ H' d = some (.dK kvs) ∧ DS kvs ks ∧ ks.Nodup ∧ ks.length ≤ i * 1000 + j ∧ ∀ a, a ∈ ks ↔ a ≠ 0 ∧ ((∃ t, some t ∈ os.take i ∧ a ∈ t) ∨ a ∈ t.take j))
          ⟨_, kvs, ks, rfl, s2, b2, h2, ds, nd, ln, fun a => by rw [mm a, List.take_zero]; simp⟩ (fun j σ H' _ ⟨_, _, _, _, _, b, _⟩ => SqL.of (b pt _ npt hpt)) ?_ ?_⟩
        · rintro j x σ H4 H5 hlt2 ⟨v3', kvs', ks', rfl, s4, b4, h4, ds4, nd4, ln4, mm4⟩ ⟨rfl, hx2⟩
          obtain ⟨n, en, rfl⟩ := nats_get hx2
          have hj : j < t.length := (List.getElem?_eq_some_iff.mp en).1
          have tk2 := take_snoc en
          refine ⟨_, rfl, rfl, _, rfl, ?_⟩
          by_cases c : n = 0
          · subst c
            refine dNF (show V.int ((0 : Nat) : Int) = V.int 0 from rfl) ?_
            refine ⟨_, kvs', ks', rfl, s4, b4, h4, ds4, nd4, by omega, fun a => ?_⟩
            rw [mm4 a, tk2]
            constructor
            · rintro ⟨z, q⟩
              exact ⟨z, q.imp id fun q => List.mem_append_left _ q⟩
            · rintro ⟨z, q⟩
              refine ⟨z, q.imp id fun q => ?_⟩
              rcases List.mem_append.mp q with q | q
              · exact q
              · exact absurd (List.mem_singleton.mp q) z
          · refine dNT (fun z => c (by injection z; omega)) ?_
            refine ⟨_, rfl, _, rfl, d, _, rfl, DPut.k (k := Sum.inl (n : Int)) h4 (sz_lt (by have := ds4.len; omega)), ?_⟩
            refine ⟨_, _, insN ks' n, rfl, sM s4 hd, bX b4, upd_same, ds4.put n _, insN_nd nd4, by have := insN_len (ks := ks') (n := n); omega, fun a => ?_⟩
            rw [insN_mem, mm4 a, tk2, List.mem_append, List.mem_singleton]
            constructor
            · rintro (⟨z, q | q⟩ | rfl)
              · exact ⟨z, .inl q⟩
              · exact ⟨z, .inr (.inl q)⟩
              · exact ⟨c, .inr (.inr rfl)⟩
            · rintro ⟨z, q | q | q⟩
              · exact .inl ⟨z, .inl q⟩
              · exact .inl ⟨z, .inr q⟩
              · exact .inr q
        · rintro σ H4 ⟨v3', kvs', ks', rfl, s4, b4, h4, ds4, nd4, ln4, mm4⟩
          rw [nats_len] at ln4
          refine ⟨_, _, kvs', ks', rfl, s4, b4, h4, ds4, nd4, by omega, fun a => ?_⟩
          rw [mm4 a, nats_len, List.take_length, tks]
          constructor
          · rintro ⟨z, ⟨t', h1, h2⟩ | h1⟩
            · exact ⟨z, t', List.mem_append_left _ h1, h2⟩
            · exact ⟨z, t, List.mem_append_right _ List.mem_cons_self, h1⟩
          · rintro ⟨z, t', h1, h2⟩
            rcases List.mem_append.mp h1 with h1 | h1
            · exact ⟨z, .inl ⟨t', h1, h2⟩⟩
            · have e1 := Option.some.inj (List.mem_singleton.mp h1)
              exact ⟨z, .inr (e1 ▸ h2)⟩
    · rintro σ H2 ⟨v2, v3, kvs, ks, rfl, s2, b2, h2, ds, nd, ln, mm⟩
      have hL4 : ([V.ref q.pr] ++ q.vsl).length = 4 := by rw [← hosl]; exact hr3.1.symm
      rw [hL4] at ln mm
      rw [List.take_of_length_le (Nat.le_of_eq hosl)] at mm
      refine ⟨_, rfl, d, kvs, ks.map (fun (n : Nat) => (n : Int)), rfl, .inl h2, ?_, ?_, fun ys p hperm _ hp => ?_⟩
      · rw [show kvs.map (·.1) = _ from ds, List.map_map]; rfl
      · rw [List.length_map]; omega
      · obtain ⟨zs, ez, pz⟩ := nats_perm hperm
        rw [ez]
        refine k _ p zs (sN s2 hp) (sF s2 hp) upd_same (fun a => ?_) (pz.nodup_iff.mpr nd) (by rw [pz.length_eq]; omega)
        rw [pz.mem_iff, mm a, live_iff]
end

end K30

namespace K30
open PySem PySem.Spec PyProof.Rows L2
/-! ## W42: the points hold -/
open K30X
section
variable {P : Program} {w : World} {K : PySem.W.Frag} {mg : Str → Option Value} {base : Heap}
def sp__law_points (K : PySem.W.Frag) : Sp := fun vs H Q _ => ∃ (lg dv lay : Addr) (H0 : Hp) (L : Lay) (st : St) (rd : Rd), vs = [.ref lay, .ref lg] ∧ LogO K H0 H lg dv lay L st ∧ L.Ok ∧ LOK L rd st.ls ∧
  ∀ H', Same H H' → Q (.bl true) H'
theorem sc__law_points : FnScope ["_law_layout_here", "_law_log", "_law_segments", "_law_k", "_law_address", "_law_at", "_law_segment"] ["_law_layout_here", "_law_log"] (defScope s__law_points) := ⟨rfl, rfl, rfl, by decide +kernel, rfl, by decide +kernel, by decide +kernel⟩
theorem cal__law_points (T : Txt K mg) (F : FD K mg "_law_points" s__law_points) (c__law_live : C8.Cal P w K mg base 1 "_law_live" (sp__law_live K) []) : C8.Cal P w K mg base 2 "_law_points" (sp__law_points K) [] := by
  obtain ⟨f, fd, F, hm⟩ := F
  refine ⟨f, fd, _, _, F.ok sc__law_points (fun vs H Q E h => ?_) (fun cdv A outer s H vs Q E hr h => ?_), hm, F.kp, F.bindsN (fun _ _ _ _ _ _ us hl => match us, hl with | [_, _], _ => rfl), .nil⟩
  · obtain ⟨_, _, _, _, _, _, _, rfl, _⟩ := h
    rfl
  · obtain ⟨lg, dv, lay, H0, L, st, rd, rfl, h, O, ok, k⟩ := h
    obtain ⟨H1, q, w, y⟩ := h.opn
    obtain ⟨dl, hl⟩ := w.hl y
    have o1 := O.s4
    have o2 := O.s16
    have o3 := O.b16
    have o4 := O.b32
    have sm := ok.sm O
    have ql := ok.qlen
    refine ⟨_, PSs.nox (pss_cons (ps_set (i := 2) sc__law_points.nd rfl (Or.inl rfl) (pe_op op_cat (pe_lst (pa_cons (pe_fld (pv 1) rfl) pa_nil)) (pe_fld (pv 1) rfl)))
      (pss_cons (ps_for PassesOwn.never rfl (pi_range1 rfl T.b_range (pa_cons (pe_callB call_len_seq (by rfl) T.b_len PySem.boot_len (pa_cons (pv 2) pa_nil)) pa_nil)) (pg_name (i := 3) sc__law_points.nd rfl (Or.inl rfl)) (pss_one (ps_if (PW.pt (pw_or (pt_cmpR op_in_seq (pe_ix ix_list (pv 2) (pv 3) (fun _ _ => rfl)) (pe_slice sl_list (pv 2) po_none (po_some (pv 3))) (by rfl)) (pw_or (pt_cmpR op_lt (pe_ix ix_list (pv 2) (pv 3) (fun _ _ => rfl)) pe_int (nomark _)) (pw_or1 (pt_cmpR op_ge (pe_ix ix_list (pv 2) (pv 3) (fun _ _ => rfl)) (pe_fld (pv 0) rfl) (nomark _)))))) (pss_one (ps_ret pe_bl)) pss_nil)))
      (pss_cons (ps_for PassesOwn.never rfl (pi_list (C8.pe_c c__law_live hr (by decide) (by rfl) (pa_cons (pv 1) pa_nil))) (pg_name (i := 4) sc__law_points.nd rfl (Or.inl rfl)) (C8.pss_cut (ps_set (i := 5) sc__law_points.nd rfl (Or.inl rfl) (pe_op op_sub (pv 4) (pe_op op_mul pe_int (pe_fld (pv 0) rfl))))
      (pss_cons (ps_if (PW.pt (pw_or (pt_cmpR op_lt (pv 5) pe_int (nomark _)) (pw_or (pt_cmpR op_ge (pv 4) (pe_fld (pv 0) rfl) (nomark _)) (pw_or1 (pt_cmpR op_eq (pe_op op_mod (pv 5) (pe_fld (pv 0) rfl)) pe_int (nomark _)))))) (pss_one (ps_ret pe_bl)) pss_nil)
      (C8.pss_cut (ps_set (i := 6) sc__law_points.nd rfl (Or.inl rfl) (pe_op op_fdiv (pv 5) (pe_fld (pv 0) rfl)))
      (pss_one (ps_if (PW.pt (pw_or (pt_cmpR op_in_seq (pv 6) (pe_fld (pv 1) rfl) (by rfl)) (pw_or1 (PW.pt (pw_and (pt_cmpR op_eq (pv 6) (pe_fld (pv 1) rfl) (nomark _)) (pw_and1 (pt_cmpR op_ge (pe_op op_mod (pv 5) (pe_fld (pv 0) rfl)) (pe_fld (pv 1) rfl) (nomark _)))))))) (pss_one (ps_ret pe_bl)) pss_nil))))))
      (pss_one (ps_ret pe_bl))))), ?_⟩
    refine ⟨_, rfl, lg, _, q.dx, _, _, rfl, w.h0, T.cG, T.nG_head, rfl, by show 1 ≤ sizeLine; decide, fun p0 hp0 => ?_⟩
    have w1 := w.new (sN (o := .lst [V.int (st.ls.head : Int)]) (sR _) hp0)
    have s1 : Same H (upd H p0 (.lst [V.int (st.ls.head : Int)])) := sN (sR H) hp0
    refine ⟨_, rfl, lg, _, q.dx, _, _, rfl, w1.h0, T.cG, T.nG_queue, rfl, p0, q.qu, _, _, rfl, rfl, upd_same, w1.hq, ?_, fun ps hps => ?_⟩
    · rw [List.length_singleton, nats_len]; exact sz_ok (by omega)
    have s2 := sN (o := .lst (nats (st.ls.head :: st.ls.queue))) s1 hps
    have hps2 : upd (upd H p0 (.lst [V.int (st.ls.head : Int)])) ps (.lst ([V.int (st.ls.head : Int)] ++ nats st.ls.queue)) ps = some (.lst (nats (st.ls.head :: st.ls.queue))) := upd_same
    refine ⟨_, rfl, ps, _, rfl, .inl (SqL.of hps2), _, rfl, by rw [nats_len, List.length_cons]; omega, by rw [nats_len, List.length_cons]; omega, for_it walk_range (fun i σ H' => ∃ (v3 : Option V), σ = [some (.ref lay), some (.ref lg), some (.ref ps), v3, none, none, none] ∧ Same H H' ∧ H' ps = some (.lst (nats (st.ls.head :: st.ls.queue))))
      ⟨none, rfl, s2, hps2⟩ (fun _ _ _ _ _ => trivial) ?_ ?_⟩
    · rintro i x σ H4 H5 hlt ⟨v3, rfl, s4, h4⟩ ⟨rfl, rfl⟩
      have ei : (fun (j : Nat) => V.int (0 + (j : Int))) i = V.int (i : Int) := by
        show V.int (0 + (i : Int)) = _
        rw [Int.zero_add]
      rw [ei]
      have hi : i < (st.ls.head :: st.ls.queue).length := by rw [nats_len] at hlt; omega
      have hgt := ok.hr _ (List.getElem_mem hi)
      refine ⟨_, rfl, _, rfl, ps, _, _, _, rfl, rfl, SqL.of h4, atI_nat (j := i) (nats_at hi), _, rfl, _, rfl, _, rfl, ps, _, rfl, SqL.of h4, fun p hp => ?_⟩
      rw [cutV_to, nats_take]
      refine ⟨p, _, rfl, .inl (SqL.of upd_same), rfl, flat_nats, _, rfl, ?_⟩
      have ev : (if false = true then !inV (.int (((st.ls.head :: st.ls.queue)[i] : Nat) : Int)) (nats ((st.ls.head :: st.ls.queue).take i)) else inV (.int (((st.ls.head :: st.ls.queue)[i] : Nat) : Int)) (nats ((st.ls.head :: st.ls.queue).take i))) = decide ((st.ls.head :: st.ls.queue)[i] ∈ (st.ls.head :: st.ls.queue).take i) := by rw [if_neg Bool.false_ne_true, inV_nats]
      rw [ev]
      have nin : (st.ls.head :: st.ls.queue)[i] ∉ (st.ls.head :: st.ls.queue).take i := fun hm => by
        obtain ⟨j, hj, e⟩ := List.mem_iff_getElem.mp hm
        rw [List.getElem_take] at e
        rw [List.length_take] at hj
        exact (List.pairwise_iff_getElem.mp ok.nd) j i (by omega) hi (by omega) e
      have s5 := sN (o := .lst (nats ((st.ls.head :: st.ls.queue).take i))) s4 hp
      have h5 := uN (o := .lst (nats ((st.ls.head :: st.ls.queue).take i))) h4 hp
      refine dF nin ?_
      refine ⟨_, rfl, _, rfl, ps, _, _, _, rfl, rfl, SqL.of h5, atI_nat (j := i) (nats_at hi), _, _, rfl, rfl, _, rfl, ?_⟩
      refine dF (by omega) ?_
      refine ⟨_, rfl, _, rfl, ps, _, _, _, rfl, rfl, SqL.of h5, atI_nat (j := i) (nats_at hi), _, rfl, lay, _, dl, _, _, rfl, s5 _ _ hl, T.cL, T.nL_segments, rfl, _, _, rfl, rfl, _, rfl, ?_⟩
      refine dF (by omega) ?_
      exact ⟨_, rfl, s5, h5⟩
    · rintro σ H4 ⟨v3, rfl, s4, h4⟩
      refine ⟨_, rfl, lg, dv, lay, _, L, st, rfl, h.ext s4, sm.s3, sm.tl, fun H5 py ys s5 hpy hys mem nd len => ?_⟩
      have s45 := sT s4 s5
      refine ⟨py, rfl, ⟨_, SqL.of hys⟩, for_it walk_list (fun i σ H' => ∃ (v3 v4 v5 v6 : Option V), σ = [some (.ref lay), some (.ref lg), some (.ref ps), v3, v4, v5, v6] ∧ H' = H5)
        ⟨v3, none, none, none, rfl, rfl⟩ (fun i σ H' _ ⟨_, _, _, _, _, e⟩ => e ▸ SqL.of hys) ?_ ?_⟩
      · rintro i x σ H6 H7 hlt ⟨v3, v4, v5, v6, rfl, rfl⟩ ⟨rfl, hx⟩
        obtain ⟨n, en, rfl⟩ := nats_get hx
        obtain ⟨g, pp, ea, hg, hp0', hpp, hgq, hgh⟩ := ok.lv n ((mem n).mp (List.mem_of_getElem? en))
        have en2 : n = 2 * L.rb + (g * L.blks + pp) := by rw [ea]; unfold Lay.ad; omega
        have hndb : n < L.db := by rw [ea]; exact ad_lt hg hpp
        have em : (g * L.blks + pp) % L.blks = pp := by rw [Nat.add_comm, Nat.add_mul_mod_self_right, Nat.mod_eq_of_lt hpp]
        have ed : (g * L.blks + pp) / L.blks = g := divB hpp
        refine ⟨fun σ G => σ = [some (.ref lay), some (.ref lg), some (.ref ps), v3, some (.int (n : Int)), some (.int ((g * L.blks + pp : Nat) : Int)), v6] ∧ G = H7, ?_, ?_⟩
        · refine ⟨_, rfl, _, rfl, lay, _, dl, _, _, rfl, s45 _ _ hl, T.cL, T.nL_region_blocks, rfl, _, _, rfl, rfl, .inl ⟨by omega, by omega⟩, _, _, rfl, rfl, ?_⟩
          refine ⟨?_, rfl⟩
          have e1 : (n : Int) - 2 * (L.rb : Int) = ((g * L.blks + pp : Nat) : Int) := by rw [en2]; omega
          rw [← e1]; rfl
        rintro σ G ⟨rfl, rfl⟩
        refine ⟨_, rfl, _, _, rfl, rfl, _, rfl, ?_⟩
        refine dF (by omega) ?_
        refine ⟨_, rfl, _, rfl, lay, _, dl, _, _, rfl, s45 _ _ hl, T.cL, T.nL_device_blocks, rfl, _, _, rfl, rfl, _, rfl, ?_⟩
        refine dF (by omega) ?_
        refine ⟨_, rfl, _, rfl, lay, _, dl, _, _, rfl, s45 _ _ hl, T.cL, T.nL_segment_blocks, rfl, _, _, rfl, rfl, by omega, rfl, _, rfl, ?_⟩
        have em2 : ((g * L.blks + pp : Nat) : Int) % (L.blks : Int) = (pp : Int) := by rw [← Int.natCast_emod, em]
        have ed2 : ((g * L.blks + pp : Nat) : Int) / (L.blks : Int) = (g : Int) := by rw [← Int.natCast_ediv, ed]
        refine dF (fun z => ?_) ?_
        · have z' : V.int (((g * L.blks + pp : Nat) : Int) % (L.blks : Int)) = V.int 0 := z
          rw [em2] at z'
          injection z'
          omega
        refine ⟨fun σ G' => σ = [some (.ref lay), some (.ref lg), some (.ref ps), v3, some (.int (n : Int)), some (.int ((g * L.blks + pp : Nat) : Int)), some (.int (g : Int))] ∧ G' = G, ?_, ?_⟩
        · refine ⟨_, rfl, _, rfl, lay, _, dl, _, _, rfl, s45 _ _ hl, T.cL, T.nL_segment_blocks, rfl, _, _, rfl, rfl, ⟨by omega, by omega⟩, ?_⟩
          refine ⟨?_, rfl⟩
          rw [← ed2]; rfl
        rintro σ G' ⟨rfl, rfl⟩
        refine ⟨_, rfl, _, rfl, lg, _, q.dx, _, _, rfl, s45 _ _ w.h0, T.cG, T.nG_queue, rfl, q.qu, _, rfl, .inl (SqL.of (s45 _ _ w.hq)), rfl, flat_nats, _, rfl, ?_⟩
        have ev : (if false = true then !inV (.int (g : Int)) (nats st.ls.queue) else inV (.int (g : Int)) (nats st.ls.queue)) = decide (g ∈ st.ls.queue) := by rw [if_neg Bool.false_ne_true, inV_nats]
        rw [ev]
        refine dF hgq ?_
        refine ⟨_, rfl, _, rfl, lg, _, q.dx, _, _, rfl, s45 _ _ w.h0, T.cG, T.nG_head, rfl, rfl, _, rfl, ?_⟩
        by_cases c1 : V.int (g : Int) = V.int (st.ls.head : Int)
        · refine dT c1 ?_
          have hgh' := hgh (by injection c1; omega)
          refine ⟨_, rfl, _, rfl, lay, _, dl, _, _, rfl, s45 _ _ hl, T.cL, T.nL_segment_blocks, rfl, _, _, rfl, rfl, by omega, _, rfl, lg, _, q.dx, _, _, rfl, s45 _ _ w.h0, T.cG, T.nG_place, rfl, _, _, rfl, rfl, _, rfl, ?_⟩
          refine dF (fun z => ?_) ?_
          · have z' : (st.ls.place : Int) ≤ ((g * L.blks + pp : Nat) : Int) % (L.blks : Int) := z
            rw [em2] at z'
            omega
          exact ⟨_, _, _, _, rfl, rfl⟩
        · refine dF c1 ?_
          refine iteF ?_
          exact ⟨_, _, _, _, rfl, rfl⟩
      · rintro σ H6 ⟨v3, v4, v5, v6, rfl, rfl⟩
        exact k _ s45
end

end K30

namespace K30
open PySem PySem.Spec PyProof.Rows L2
/-! ## W43: fates -/
open K30X
section
variable {P : Program} {w : World} {K : PySem.W.Frag} {mg : Str → Option Value} {base : Heap}
def sp__law_failure (K : PySem.W.Frag) : Sp := fun vs H Q _ => ∃ (z : Addr) (xs : List Int) (at_ c : Nat), vs = [.ref z, .int (at_ : Int), .int (c : Int)] ∧ SqL K H z (xs.map V.int) ∧ xs.length ≤ 63 ∧ c ≤ 70000 ∧
  ∀ H' p pk pt kept torn, Same H H' → H' p = some (.lst [.ref pk, .ref pt]) → H' pk = some (.lst (nats kept)) → H' pt = some (.lst (nats torn)) → Q (.ref p) H'
theorem sc__law_failure : FnScope ["_law_script", "_law_at", "_law_waiting", "_law_mode", "_law_more", "_law_kept", "_law_torn", "_law_k", "_law_fate"] ["_law_script", "_law_at", "_law_waiting"] (defScope s__law_failure) := ⟨rfl, rfl, rfl, by decide +kernel, rfl, by decide +kernel, by decide +kernel⟩
theorem cal__law_failure (T : Txt K mg) (F : FD K mg "_law_failure" s__law_failure) (c__law_digits : C8.Cal P w K mg base 1 "_law_digits" (sp__law_digits K) []) (c__law_row : C8.Cal P w K mg base 1 "_law_row" (sp__law_row K) []) : C8.Cal P w K mg base 2 "_law_failure" (sp__law_failure K) [] := by
  obtain ⟨f, fd, F, hm⟩ := F
  refine ⟨f, fd, _, _, F.ok sc__law_failure (fun vs H Q E h => ?_) (fun cdv A outer s H vs Q E hr h => ?_), hm, F.kp, F.bindsN (fun _ _ _ _ _ _ us hl => match us, hl with | [_, _, _], _ => rfl), .nil⟩
  · obtain ⟨_, _, _, _, rfl, _⟩ := h
    rfl
  · obtain ⟨z, xs, at_, c, rfl, hs, hl, hc, k⟩ := h
    refine ⟨_, PSs.nox (pss_cons (ps_asg (C8.pe_c c__law_digits hr (by decide) (by rfl) (pa_cons (C8.pe_c c__law_row hr (by decide) (by rfl) (pa_cons (pv 0) (pa_cons (pv 1) pa_nil))) (pa_cons (pe_lst (pa_cons pe_int (pa_cons (pe_op op_pow pe_int pe_int) pa_nil))) pa_nil))) (pg_unl rfl (pgs_cons (pg_name (i := 3) sc__law_failure.nd rfl (Or.inl rfl)) (pgs_cons (pg_name (i := 4) sc__law_failure.nd rfl (Or.inl rfl)) pgs_nil))))
      (pss_cons (ps_set (i := 5) sc__law_failure.nd rfl (Or.inl rfl) (pe_lst pa_nil))
      (pss_cons (ps_set (i := 6) sc__law_failure.nd rfl (Or.inl rfl) (pe_lst pa_nil))
      (pss_cons (ps_for PassesOwn.never rfl (pi_range1 rfl T.b_range (pa_cons (pv 2) pa_nil)) (pg_name (i := 7) sc__law_failure.nd rfl (Or.inl rfl)) (C8.pss_cut (ps_set (i := 8) sc__law_failure.nd rfl (Or.inl rfl) (pe_op op_mod (pe_callTy call_int1 (by rfl) T.b_int (by decide +kernel) (pa_cons (pe_op op_fdiv (C8.pe_c c__law_row hr (by decide) (by rfl) (pa_cons (pv 0) (pa_cons (pe_op op_add (pe_op op_add (pv 1) pe_int) (pe_op op_mod (pv 7) pe_int)) pa_nil))) (pe_op op_add (pv 7) pe_int)) pa_nil)) pe_int))
      (C8.pss_cut (ps_if (pt_cmpR op_eq (pv 3) pe_int (nomark _)) (pss_one (ps_set (i := 8) sc__law_failure.nd rfl (Or.inl rfl) pe_int)) pss_nil)
      (C8.pss_cut (ps_if (pt_cmpR op_eq (pv 3) pe_int (nomark _)) (pss_one (ps_set (i := 8) sc__law_failure.nd rfl (Or.inl rfl) (pe_op op_add pe_int (pe_op op_mod (pv 4) pe_int)))) pss_nil)
      (C8.pss_cut (ps_if (pt_cmpR op_eq (pv 3) pe_int (nomark _)) (pss_one (ps_set (i := 8) sc__law_failure.nd rfl (Or.inl rfl) (pe_callTy call_int1 (by rfl) T.b_int (by decide +kernel) (pa_cons (pe_cmpR op_lt (pv 7) (pe_op op_mod (pv 4) (pe_op op_add (pv 2) pe_int)) (nomark _)) pa_nil)))) pss_nil)
      (C8.pss_cut (ps_if (PW.pt (pw_and (pt_cmpR op_eq (pv 3) pe_int (nomark _)) (pw_and1 (pt_cmpR op_lt (pe_op op_add (pv 7) pe_int) (pv 2) (nomark _))))) (pss_one (ps_set (i := 8) sc__law_failure.nd rfl (Or.inl rfl) pe_int)) pss_nil)
      (pss_one (ps_if (pt_cmpR op_eq (pv 8) pe_int (nomark _)) (pss_one (ps_expr (pe_bm PySem.F.plainAttrs_list PySem.F.slot_list_append PySem.F.type_list_append mt_append (pv 5) (pa_cons (pv 7) pa_nil)))) (pss_one (ps_if (pt_cmpR op_eq (pv 8) pe_int (nomark _)) (pss_one (ps_expr (pe_bm PySem.F.plainAttrs_list PySem.F.slot_list_append PySem.F.type_list_append mt_append (pv 6) (pa_cons (pv 7) pa_nil)))) pss_nil))))))))))
      (pss_one (ps_ret (pe_lst (pa_cons (pv 5) (pa_cons (pv 6) pa_nil))))))))), ?_⟩
    have e6 : (10 : Int) ^ ((6 : Int).toNat) = ((1000000 : Nat) : Int) := by decide
    refine ⟨_, rfl, _, rfl, z, xs, at_, rfl, hs, hl, fun r => ⟨_, _, rfl, rfl, ⟨by decide, by decide, by decide⟩, by show 2 ≤ sizeLine; decide, fun pz hpz => ?_⟩⟩
    refine ⟨r, pz, [6, 1000000], rfl, ?_, by decide, by decide, fun H2 p s2 hp hds => ?_⟩
    · rw [upd_same]
      show some (HO.lst [V.int 6, V.int ((10 : Int) ^ ((6 : Int).toNat))]) = _
      rw [e6]; rfl
    have s1 := sT (sN (sR H) hpz) s2
    have ⟨m0, m1, em⟩ : ∃ m0 m1, digs r [6, 1000000] = [m0, m1] := ⟨_, _, rfl⟩
    rw [em] at hds
    refine ⟨p, _, rfl, SqL.of hds, rfl, _, _, rfl, _, _, rfl, rfl, ?_⟩
    refine ⟨Nat.zero_le _, fun pk hpk => ?_⟩
    have s3 := sN (o := .lst []) s1 hpk
    refine ⟨Nat.zero_le _, fun pt hpt => ?_⟩
    have s4 := sN (o := .lst []) s3 hpt
    have hpk0 : H pk = Option.none := sF s1 hpk
    have hpt0 : H pt = Option.none := sF s3 hpt
    have nkt : pk ≠ pt := fun e => by rw [← e, upd_same] at hpt; cases hpt
    refine ⟨_, rfl, _, rfl, by omega, by omega, for_it walk_range (fun i σ H' => ∃ (v7 v8 : Option V) (ks ts : List Nat), σ = [some (.ref z), some (.int (at_ : Int)), some (.int (c : Int)), some (.int (m0 : Int)), some (.int (m1 : Int)), some (.ref pk), some (.ref pt), v7, v8] ∧ Same H H' ∧ H' pk = some (.lst (nats ks)) ∧ H' pt = some (.lst (nats ts)) ∧ ks.length ≤ i ∧ ts.length ≤ i)
      ⟨none, none, [], [], rfl, s4, uN upd_same hpt, upd_same, Nat.le_refl _, Nat.le_refl _⟩ (fun _ _ _ _ _ => trivial) ?_ ?_⟩
    · rintro i x σ H4 H5 hlt ⟨v7, v8, ks, ts, rfl, s5, hk5, ht5, kl, tl⟩ ⟨rfl, rfl⟩
      have ei : (fun (j : Nat) => V.int (0 + (j : Int))) i = V.int (i : Int) := by
        show V.int (0 + (i : Int)) = _
        rw [Int.zero_add]
      rw [ei]
      have hi : i < 70000 := by omega
      have sl : ks.length < 100000 := by omega
      refine ⟨fun σ G => (∃ f : Int, σ = [some (.ref z), some (.int (at_ : Int)), some (.int (c : Int)), some (.int (m0 : Int)), some (.int (m1 : Int)), some (.ref pk), some (.ref pt), some (.int (i : Int)), some (.int f)]) ∧ G = H5, ?_, ?_⟩
      · refine ⟨_, rfl, _, rfl, _, _, rfl, rfl, _, rfl, _, _, rfl, rfl, by omega, _, _, rfl, rfl, z, xs, at_ + 1 + i % 7, ?_, SqL.same hs s5, hl, fun r2 => ⟨_, rfl, _, _, rfl, rfl, _, _, rfl, rfl, ⟨by omega, by omega⟩, .inl ⟨_, rfl, _, _, rfl, rfl, by omega, ⟨_, rfl⟩, rfl⟩⟩⟩
        show [V.ref z, V.int ((at_ : Int) + 1 + (i : Int) % 7)] = [V.ref z, V.int ((at_ + 1 + i % 7 : Nat) : Int)]
        rw [show (at_ : Int) + 1 + (i : Int) % 7 = ((at_ + 1 + i % 7 : Nat) : Int) by omega]
      rintro σ G ⟨⟨f, rfl⟩, rfl⟩
      refine ⟨fun σ G' => (∃ f : Int, σ = [some (.ref z), some (.int (at_ : Int)), some (.int (c : Int)), some (.int (m0 : Int)), some (.int (m1 : Int)), some (.ref pk), some (.ref pt), some (.int (i : Int)), some (.int f)]) ∧ G' = G, ?_, ?_⟩
      · refine ⟨_, rfl, rfl, _, rfl, ?_⟩
        by_cases c1 : V.int (m0 : Int) = V.int 0
        · refine dT c1 ?_
          exact ⟨⟨_, rfl⟩, rfl⟩
        · refine dF c1 ?_
          exact ⟨⟨_, rfl⟩, rfl⟩
      rintro σ G' ⟨⟨f, rfl⟩, rfl⟩
      refine ⟨fun σ G => (∃ f : Int, σ = [some (.ref z), some (.int (at_ : Int)), some (.int (c : Int)), some (.int (m0 : Int)), some (.int (m1 : Int)), some (.ref pk), some (.ref pt), some (.int (i : Int)), some (.int f)]) ∧ G = G', ?_, ?_⟩
      · refine ⟨_, rfl, rfl, _, rfl, ?_⟩
        by_cases c1 : V.int (m0 : Int) = V.int 1
        · refine dT c1 ?_
          refine ⟨_, rfl, _, _, rfl, rfl, by omega, _, _, rfl, rfl, ?_⟩
          exact ⟨⟨_, rfl⟩, rfl⟩
        · refine dF c1 ?_
          exact ⟨⟨_, rfl⟩, rfl⟩
      rintro σ G ⟨⟨f, rfl⟩, rfl⟩
      refine ⟨fun σ G' => (∃ f : Int, σ = [some (.ref z), some (.int (at_ : Int)), some (.int (c : Int)), some (.int (m0 : Int)), some (.int (m1 : Int)), some (.ref pk), some (.ref pt), some (.int (i : Int)), some (.int f)]) ∧ G' = G, ?_, ?_⟩
      · refine ⟨_, rfl, rfl, _, rfl, ?_⟩
        by_cases c1 : V.int (m0 : Int) = V.int 2
        · refine dT c1 ?_
          refine ⟨_, rfl, _, rfl, _, rfl, _, _, rfl, rfl, _, _, rfl, rfl, by omega, _, _, rfl, rfl, .inr ⟨_, rfl, ?_⟩⟩
          exact ⟨⟨_, rfl⟩, rfl⟩
        · refine dF c1 ?_
          exact ⟨⟨_, rfl⟩, rfl⟩
      rintro σ G' ⟨⟨f, rfl⟩, rfl⟩
      refine ⟨fun σ G => (∃ f : Int, σ = [some (.ref z), some (.int (at_ : Int)), some (.int (c : Int)), some (.int (m0 : Int)), some (.int (m1 : Int)), some (.ref pk), some (.ref pt), some (.int (i : Int)), some (.int f)]) ∧ G = G', ?_, ?_⟩
      · refine ⟨_, rfl, rfl, _, rfl, ?_⟩
        by_cases c1 : V.int (m0 : Int) = V.int 3
        · refine dT c1 ?_
          refine ⟨_, rfl, _, _, rfl, rfl, _, rfl, _, _, rfl, rfl, _, rfl, ?_⟩
          by_cases c2 : (i : Int) + 2 < (c : Int)
          · refine dT c2 ?_
            exact ⟨⟨_, rfl⟩, rfl⟩
          · refine dF c2 ?_
            exact ⟨⟨_, rfl⟩, rfl⟩
        · refine dF c1 ?_
          refine iteF ?_
          exact ⟨⟨_, rfl⟩, rfl⟩
      rintro σ G ⟨⟨f, rfl⟩, rfl⟩
      refine ⟨_, rfl, rfl, _, rfl, ?_⟩
      by_cases c1 : V.int f = V.int 0
      · refine dT c1 ?_
        refine ⟨_, rfl, .inl ⟨rfl, _, SqL.of hk5⟩, _, rfl, pk, _, _, rfl, rfl, hk5, sz_lt (by rw [nats_len]; omega), ?_⟩
        exact ⟨_, _, ks ++ [i], ts, rfl, sM s5 hpk0, by rw [upd_same, nats_app]; rfl, by rw [upd_ne (Ne.symm nkt)]; exact ht5, by rw [List.length_append]; simp; omega, by omega⟩
      · refine dF c1 ?_
        refine ⟨_, rfl, rfl, _, rfl, ?_⟩
        by_cases c2 : V.int f = V.int 1
        · refine dT c2 ?_
          refine ⟨_, rfl, .inl ⟨rfl, _, SqL.of ht5⟩, _, rfl, pt, _, _, rfl, rfl, ht5, sz_lt (by rw [nats_len]; omega), ?_⟩
          exact ⟨_, _, ks, ts ++ [i], rfl, sM s5 hpt0, by rw [upd_ne nkt]; exact hk5, by rw [upd_same, nats_app]; rfl, by omega, by rw [List.length_append]; simp; omega⟩
        · refine dF c2 ?_
          exact ⟨_, _, ks, ts, rfl, s5, hk5, ht5, by omega, by omega⟩
    · rintro σ H4 ⟨v7, v8, ks, ts, rfl, s5, hk5, ht5, kl, tl⟩
      exact ⟨_, rfl, _, rfl, by show 2 ≤ sizeLine; decide, fun pr hpr => k _ pr pk pt ks ts (sN s5 hpr) upd_same (uN hk5 hpr) (uN ht5 hpr)⟩
end

end K30

namespace K30
open PySem PySem.Spec PyProof.Rows L2
/-! ## W44: quiet deeds -/
open K30X
/-- the pending writes, the power cut or not -/
def Wm (st : St) : Prop := st.dev.waiting.length ≤ 5000
theorem barrier_len (d : Dev) : d.barrier.waiting.length ≤ d.waiting.length := by
  cases e : d.tick.dark with
  | true => rw [(barrier_yes d e).2]; exact Nat.le_refl _
  | false => rw [(barrier_no d e).2]; exact Nat.zero_le _
theorem writes_len (d : Dev) (ws : List (Nat × Blk)) : (d.writes ws).waiting.length ≤ d.waiting.length + ws.length := by
  obtain ⟨i, e, _⟩ := writes_wait ws d
  rw [e, List.length_append, List.length_take]
  omega
theorem wm_batch {L : Lay} {st : St} {kind n : Nat} {body : Body} {pays : List Pay} (h : Wm st) (w : Wb st n) (hn : n ≤ 4000) (hp : pays.length ≤ 100) : Wm (writeBatch L st kind body pays) := by
  cases e : st.dev.dark with
  | true =>
    show (Dev.writes _ _).waiting.length ≤ 5000
    rw [(writes_dark _ _ e).2]; exact h
  | false =>
    have h1 := w e
    have h2 := writes_len st.dev (batchWs (L.ad st.ls.head st.ls.place) ⟨kind, st.seq + 1, 0, body⟩ pays)
    have h3 : (batchWs (L.ad st.ls.head st.ls.place) ⟨kind, st.seq + 1, 0, body⟩ pays).length = 1 + pays.length := by unfold batchWs; rw [List.length_cons, payWs_len]; omega
    show (Dev.writes _ _).waiting.length ≤ 5000
    omega
theorem wm_com {L : Lay} {st st' : St} {ids used : List Nat} {pays : List Pay} {act n : Nat} (h : Wm st) (w : Wb st n) (hn : n ≤ 4000) (hp : pays.length ≤ 100) (e : appendCommit L st ids pays used act = some st') : Wm st' := by
  rcases com_cases e with rfl | rfl
  · exact wm_batch (st := enterSt st) h w hn hp
  · exact wm_batch h w hn hp
theorem wm_ck {L : Lay} (O : L.Ok) {st : St} {fr : List Nat} {n : Nat} (h : Wm st) (w : Wb st n) (hn : n ≤ 4000) : Wm (checkpoint L fr st) := by
  have ob := O.bnd
  have b1 := barrier_len st.dev
  have b3 := barrier_len (st.dev.barrier.writes (ckWs L (1 - st.reg) (st.seq + 1) (ckNums L (extQ st.ls fr))))
  show (Dev.barrier _).waiting.length ≤ 5000
  unfold Wm at h
  cases e : st.dev.dark with
  | true =>
    have e2 : st.dev.barrier.dark = true := by rw [barrier_dark]; exact tick_dark _ e
    rw [(writes_dark _ _ e2).2] at b3
    omega
  | false =>
    have h1 := w e
    have h2 := writes_len st.dev.barrier (ckWs L (1 - st.reg) (st.seq + 1) (ckNums L (extQ st.ls fr)))
    have h3 : (ckWs L (1 - st.reg) (st.seq + 1) (ckNums L (extQ st.ls fr))).length = L.rb := by unfold ckWs; rw [List.length_map, List.length_range]
    omega
theorem move_cases {L : Lay} {st st' : St} {as : List Nat} (e : appendMove L st as = some st') : ∃ ps : List Pay, ps.length ≤ L.pay ∧ st' = writeBatch L (enterSt st) 2 (.flat as) ps := by
  unfold appendMove at e
  by_cases c : st.ls.queue = [] ∨ L.pay < as.length
  · rw [if_pos c] at e; cases e
  · rw [if_neg c] at e
    cases e1 : paysAt st.rd as with
    | none => rw [e1] at e; cases e
    | some ps =>
      rw [e1] at e; cases e
      have := (paysAt_ok e1).1
      have h2 : ¬ L.pay < as.length := fun z => c (.inr z)
      exact ⟨ps, by omega, rfl⟩
theorem wm_fill {L : Lay} (O : L.Ok) {st st' : St} {b : Bool} {n : Nat} (hf : Fill L st st' b) (h : Wm st) (w : Wb st n) (hn : n ≤ 3000) : Wm st' := by
  have ob := O.bnd
  rcases hf with ⟨rfl, rfl⟩ | ⟨rfl, as, st1, fr, e, nf, rfl⟩
  · exact h
  · obtain ⟨ps, hp, rfl⟩ := move_cases e
    exact wm_ck O (wm_batch (st := enterSt st) h w (by omega) (by omega)) (wb_batch (st := enterSt st) w) (by omega)
theorem wm_fills {L : Lay} (O : L.Ok) {st st' : St} (hf : Fills L st st') : ∀ {n : Nat}, Wm st → Wb st n → n ≤ 3000 → Wm st' := by
  induction hf with
  | nil => exact fun h _ _ => h
  | cons a _ ih => exact fun h w hn => ih (wm_fill O a h w hn) (wd_fill a w).1 hn
theorem wm_room {L : Lay} (O : L.Ok) {st st' : St} {n : Nat} (hf : Room L st st') (h : Wm st) (w : Wb st n) (hn : n ≤ 3000) : Wm st' := by
  rcases hf with rfl | ⟨fr, nf, hf⟩
  · exact h
  · exact wm_fills O hf (wm_ck O h w (by omega)) (wb_ck.mono (Nat.zero_le n)) hn
theorem wm_sync {st : St} (h : Wm st) : Wm (syncSt st) := Nat.le_trans (barrier_len _) h
theorem wm_cut {st : St} {n : Nat} (h : Wm st) : Wm (cutSt st n) := by
  have e : (cutSt st n).dev.waiting = st.dev.waiting := by
    unfold cutSt Dev.cutAfter
    dsimp only
    split <;> rfl
  unfold Wm
  rw [e]; exact h
/-- what a quiet deed leaves -/
structure QuietR (L : Lay) (st st' : St) (A : AS) (S : AS → Prop) (n : Nat) (b : Bool) : Prop where
  si : SI L st' A S
  wb : Wb st' n
  wm : Wm st'
  dk : st'.dev.dark = false → st.dev.dark = false
  ti : b = true → st'.dev.dark = false → SI L st' A (fun A' => A' = A)
theorem quiet_sync {L : Lay} (O : L.Ok) {st : St} {A : AS} {S : AS → Prop} {n : Nat} (h : SI L st A S) (w : Wb st n) (m : Wm st) : QuietR L st (syncSt st) A S n true :=
  ⟨(sync_ok O h).1, wd_sync.1.mono (Nat.zero_le _), wm_sync m, wd_sync.2, fun _ => (sync_ok O h).2⟩
theorem quiet_ck {L : Lay} (O : L.Ok) {st : St} {A : AS} {S : AS → Prop} {n : Nat} {fr : List Nat} (h : SI L st A S) (w : Wb st n) (m : Wm st) (hn : n ≤ 3000) (nf : NewFree L st.ls fr) : QuietR L st (checkpoint L fr st) A S n true :=
  ⟨(ck_tight O h nf).1, wb_ck.mono (Nat.zero_le _), wm_ck O m w (by omega), dk_ck, fun _ => (ck_tight O h nf).2⟩
theorem quiet_fill {L : Lay} (O : L.Ok) {st st' : St} {A : AS} {S : AS → Prop} {n : Nat} {b : Bool} (h : SI L st A S) (w : Wb st n) (m : Wm st) (hn : n ≤ 3000) (hf : Fill L st st' b) : QuietR L st st' A S n b :=
  ⟨(fill_ok O h hf).1, (wd_fill hf w).1, wm_fill O hf m w hn, (wd_fill hf w).2, fun e => ((fill_ok O h hf).2 e).2⟩
theorem quiet_clean {L : Lay} (O : L.Ok) {st st' : St} {A : AS} {S : AS → Prop} {n : Nat} {fr : List Nat} (h : SI L st A S) (w : Wb st n) (m : Wm st) (hn : n ≤ 3000) (nf : NewFree L st.ls fr) (hf : Fills L (checkpoint L fr st) st') : QuietR L st st' A S n true := by
  have t := fills_tight O (ck_tight O h nf) hf
  have d := wd_fills hf (wb_ck (L := L) (fr := fr) (st := st))
  exact ⟨t.1, d.1.mono (Nat.zero_le _), wm_fills O hf (wm_ck O m w (by omega)) (wb_ck.mono (Nat.zero_le n)) hn, fun z => dk_ck (d.2 z), fun _ => t.2⟩
section
variable {P : Program} {w : World} {K : PySem.W.Frag} {mg : Str → Option Value} {base : Heap}
def sp__law_quiet (K : PySem.W.Frag) : Sp := fun vs H Q _ => ∃ (lg dv lay : Addr) (H0 : Hp) (L : Lay) (st : St) (r n : Nat) (A : AS) (S : AS → Prop), vs = [.ref lay, .ref lg, .int (r : Int)] ∧ LogO K H0 H lg dv lay L st ∧ L.Ok ∧ SI L st A S ∧ Wb st n ∧ Wm st ∧ n ≤ 3000 ∧
  ∀ H' st' b, QuietR L st st' A S n b → LogO K H0 H' lg dv lay L st' → Q (.bl b) H'
theorem sc__law_quiet : FnScope ["_law_layout_here", "_law_log", "_law_row_here", "_law_kind", "_law_size", "_law_start", "_law_policy", "_law_passes", "_law_j"] ["_law_layout_here", "_law_log", "_law_row_here"] (defScope s__law_quiet) := ⟨rfl, rfl, rfl, by decide +kernel, rfl, by decide +kernel, by decide +kernel⟩
theorem cal__law_quiet (T : Txt K mg) (F : FD K mg "_law_quiet" s__law_quiet) (c__law_digits : C8.Cal P w K mg base 1 "_law_digits" (sp__law_digits K) []) (c_sync_log : C8.Cal P w K mg base 3 "sync_log" (sp_sync_log K) []) (c_write_checkpoint : C8.Cal P w K mg base 3 "write_checkpoint" (sp_write_checkpoint K) []) (c_fill : C8.Cal P w K mg base 6 "fill" (sp_fill K) []) (c_clean_log : CalK P w K mg base 7 "clean_log" (sp_clean_log K) 2 ["policy"]) : C8.Cal P w K mg base 8 "_law_quiet" (sp__law_quiet K) [] := by
  obtain ⟨f, fd, F, hm⟩ := F
  refine ⟨f, fd, _, _, F.ok sc__law_quiet (fun vs H Q E h => ?_) (fun cdv A outer s H vs Q E hr h => ?_), hm, F.kp, F.bindsN (fun _ _ _ _ _ _ us hl => match us, hl with | [_, _, _], _ => rfl), .nil⟩
  · obtain ⟨_, _, _, _, _, _, _, _, _, _, rfl, _⟩ := h
    rfl
  · obtain ⟨lg, dv, lay, H0, L, st, r, n, A0, S, rfl, h, O, si, wb, wm, hn, k⟩ := h
    obtain ⟨H1, q, w, y⟩ := h.opn
    obtain ⟨dl, hl⟩ := w.hl y
    have o1 := O.s4
    have o2 := O.s16
    refine ⟨_, PSs.nox (pss_cons (ps_asg (C8.pe_c c__law_digits hr (by decide) (by rfl) (pa_cons (pv 2) (pa_cons (pe_lst (pa_cons pe_int (pa_cons pe_int (pa_cons pe_int (pa_cons pe_int (pa_cons pe_int pa_nil)))))) pa_nil))) (pg_unl rfl (pgs_cons (pg_name (i := 3) sc__law_quiet.nd rfl (Or.inl rfl)) (pgs_cons (pg_name (i := 4) sc__law_quiet.nd rfl (Or.inl rfl)) (pgs_cons (pg_name (i := 5) sc__law_quiet.nd rfl (Or.inr rfl)) (pgs_cons (pg_name (i := 6) sc__law_quiet.nd rfl (Or.inl rfl)) (pgs_cons (pg_name (i := 7) sc__law_quiet.nd rfl (Or.inl rfl)) pgs_nil)))))))
      (pss_cons (ps_if (pt_cmpR op_eq (pv 3) pe_int (nomark _)) (pss_cons (ps_expr (C8.pe_c c_sync_log hr (by decide) (by rfl) (pa_cons (pv 1) pa_nil)))
      (pss_one (ps_ret pe_bl))) pss_nil)
      (pss_cons (ps_if (pt_cmpR op_eq (pv 3) pe_int (nomark _)) (pss_cons (ps_expr (C8.pe_c c_write_checkpoint hr (by decide) (by rfl) (pa_cons (pv 1) pa_nil)))
      (pss_one (ps_ret pe_bl))) pss_nil)
      (pss_cons (ps_if (pt_cmpR op_eq (pv 3) pe_int (nomark _)) (pss_one (ps_ret (C8.pe_c c_fill hr (by decide) (by rfl) (pa_cons (pv 1) (pa_cons (pe_lc (own := [("_law_j", 8)]) (g := gName 8) (tt := tYes) (by rfl) sc__law_quiet.nd (pi_range1 rfl T.b_range (pa_cons (pv 4) pa_nil)) (blkOk_by (N := ["_law_layout_here", "_law_log", "_law_row_here", "_law_kind", "_law_size", "_law_start", "_law_policy", "_law_passes", "_law_j"]) (sc := defScope s__law_quiet) (by decide +kernel)) (fun _ _ _ _ _ => pg_name (i := 8) sc__law_quiet.nd rfl (Or.inl rfl)) (fun _ _ _ _ _ => pts_nil) (fun _ _ _ _ _ => (pe_op op_mod (pe_callTy call_int1 (by rfl) T.b_int (by decide +kernel) (pa_cons (pe_op op_add (pv 5) (pe_op op_mul pe_int (pv 8))) pa_nil)) (pe_fldK (K := K) rfl (pv 0) rfl)))) pa_nil))))) pss_nil)
      (pss_cons (ps_expr (pe_cK c_clean_log hr (by decide) (by rfl) (pa_cons (pv 1) (pa_cons (pv 7) pa_nil)) (pk_cons (pe_ix ix_list (pe_lst (pa_cons pe_str (pa_cons pe_str (pa_cons pe_str pa_nil)))) (pv 6) (fun _ _ => rfl)) pk_nil)))
      (pss_one (ps_ret pe_bl))))))), ?_⟩
    refine ⟨_, rfl, by show 5 ≤ sizeLine; decide, fun pz hpz => ?_⟩
    refine ⟨r, pz, [4, 9, 100, 3, 4], rfl, upd_same, by decide, by decide, fun H2 p s2 hp hds => ?_⟩
    have s1 : Same H H2 := sT (sN (sR H) hpz) s2
    have h2 : LogO K H0 H2 lg dv lay L st := (h.ext s1).shrink (ext_same h.frame) y
    refine ⟨p, _, rfl, SqL.of hds, rfl, _, _, rfl, _, _, rfl, _, _, rfl, _, _, rfl, _, _, rfl, rfl, ?_⟩
    refine ⟨_, rfl, rfl, _, rfl, ?_⟩
    by_cases c1 : V.int ((r % 4 : Nat) : Int) = V.int 0
    · refine dT c1 ?_
      refine ⟨_, rfl, lg, dv, lay, H0, L, st, rfl, h2, fun x hx => by rw [si.ok.lu]; exact si.ok.lw x hx, fun H3 h3 => ?_⟩
      exact k H3 _ true (quiet_sync O si wb wm) h3
    refine dF c1 ?_
    refine ⟨_, rfl, rfl, _, rfl, ?_⟩
    by_cases c2 : V.int ((r % 4 : Nat) : Int) = V.int 1
    · refine dT c2 ?_
      refine ⟨_, rfl, lg, dv, lay, H0, L, st, rfl, h2, O, si.chk, fun H3 fr nf h3 => ?_⟩
      exact k H3 _ true (quiet_ck O si wb wm hn nf) h3
    refine dF c2 ?_
    refine ⟨_, rfl, rfl, _, rfl, ?_⟩
    by_cases c3 : V.int ((r % 4 : Nat) : Int) = V.int 2
    · refine dT c3 ?_
      have b9' : r / 4 % 9 < 9 := Nat.mod_lt _ (by omega)
      refine ⟨_, rfl, _, rfl, _, rfl, by omega, by omega, fun D hD => lc_it walk_range (fun i H' => Same H2 H' ∧ ∃ os, H' D = some (.lst (nats os)) ∧ os.length = i) ⟨sN (sR H2) hD, [], upd_same, rfl⟩ (fun _ _ _ _ => trivial) ?_ ?_⟩
      · rintro i x H5 H6 hlt ⟨s5, os, hos, ol⟩ ⟨rfl, rfl⟩
        have ei : (fun (j : Nat) => V.int (0 + (j : Int))) i = V.int (i : Int) := by
          show V.int (0 + (i : Int)) = _
          rw [Int.zero_add]
        rw [ei]
        have b9 : r / 4 % 9 < 9 := Nat.mod_lt _ (by omega)
        have hb := Int.emod_nonneg (((r / 4 / 9 % 100 : Nat) : Int) + 3 * (i : Int)) (show (L.segs : Int) ≠ 0 by omega)
        obtain ⟨m, hm⟩ := Int.eq_ofNat_of_zero_le hb
        refine ⟨rfl, ?_⟩
        unfold tYes
        refine iteT ?_
        refine ⟨_, rfl, _, rfl, _, _, rfl, rfl, .inl ⟨by omega, by omega⟩, _, _, rfl, rfl, .inl ⟨_, rfl, _, rfl, lay, _, dl, _, _, rfl, s5 _ _ (s1 _ _ hl), T.cL, T.nL_segments, rfl, _, _, rfl, rfl, by omega, _, hos, sz_lt (by rw [nats_len]; omega), ?_⟩⟩
        refine ⟨sM s5 hD, os ++ [m], ?_, by rw [List.length_append, ol]; rfl⟩
        rw [upd_same, nats_app]
        show some (HO.lst (nats os ++ [V.int ((((r / 4 / 9 % 100 : Nat) : Int) + 3 * (i : Int)) % (L.segs : Int))])) = _
        rw [hm]; rfl
      · rintro H5 ⟨s5, os, hos, ol⟩
        have b9 : r / 4 % 9 < 9 := Nat.mod_lt _ (by omega)
        refine ⟨lg, dv, lay, D, H0, L, st, os, rfl, (h2.ext s5).shrink (ext_same h2.frame) y, O, si.fit O (wb.mono (by omega)), si.chk, si.ok.ws, si.moves O, hos, by omega, fun H6 st' b hf h6 => ?_⟩
        exact k H6 st' b (quiet_fill O si wb wm hn hf) h6
    refine dF c3 ?_
    have b3 : r / 4 / 9 / 100 % 3 < 3 := Nat.mod_lt _ (by omega)
    have b4 : r / 4 / 9 / 100 / 3 % 4 < 4 := Nat.mod_lt _ (by omega)
    have hat : ∃ pol : Str, atI [V.str "greedy", V.str "oldest", V.str "cost-benefit"] ((r / 4 / 9 / 100 % 3 : Nat) : Int) = some (.str pol) := by
      generalize r / 4 / 9 / 100 % 3 = d at b3
      match d, b3 with
      | 0, _ => exact ⟨_, atI_nat (j := 0) rfl⟩
      | 1, _ => exact ⟨_, atI_nat (j := 1) rfl⟩
      | 2, _ => exact ⟨_, atI_nat (j := 2) rfl⟩
    obtain ⟨pol, hat⟩ := hat
    refine ⟨_, rfl, _, rfl, by show 3 ≤ sizeLine; decide, fun pl hpl => ?_⟩
    have s3 := sN (o := .lst [V.str "greedy", V.str "oldest", V.str "cost-benefit"]) (sR H2) hpl
    refine ⟨_, rfl, pl, _, _, _, rfl, rfl, SqL.of upd_same, hat, rfl, rfl, lg, dv, lay, H0, L, st, r / 4 / 9 / 100 / 3 % 4, pol, A0, S, rfl, (h2.ext s3).shrink (ext_same h2.frame) y, O, si, by omega, fun H6 st' fr n' nf hf h6 => ?_⟩
    exact k H6 st' true (quiet_clean O si wb wm hn nf hf) h6
end

end K30

namespace K30
open PySem PySem.Spec PyProof.Rows L2
/-! ## W45: all that is not the log's own; the list of states -/
open K30X
section
variable {K : PySem.W.Frag} {H0 H : Hp} {lg dv lay : Addr} {L : Lay} {st : St}
def cutH (H : Hp) (bs : List Addr) : Hp := fun b => if b ∈ bs then none else H b
theorem cutH_in {bs : List Addr} {b : Addr} (h : b ∈ bs) : cutH H bs b = none := if_pos h
theorem cutH_out {bs : List Addr} {b : Addr} (h : b ∉ bs) : cutH H bs b = H b := if_neg h
theorem cutH_same {bs : List Addr} : Same (cutH H bs) H := fun b o e => by
  by_cases h : b ∈ bs
  · rw [cutH_in h] at e; cases e
  · rw [cutH_out h] at e; exact e
theorem LogO.max (h : LogO K H0 H lg dv lay L st) : ∃ HM, LogO K HM H lg dv lay L st ∧ Same H0 HM ∧ ∀ b o, H b = some o → HM b = some o ∨ (∃ C dx fs, o = .ins C dx fs) ∨ ∃ vs, o = .lst vs ∧ ∀ v ∈ vs, v = .non ∨ ∃ t ys, v = .ref t ∧ H t = some (.tup ys) := by
  obtain ⟨H1, q, ⟨p, d⟩, l, y⟩ := h.ex
  have o4 : ∀ b o, H1 b = some o → b ∉ [dv, p.su, p.se, p.wa] := fun b o e hm => by
    have hm' : b = dv ∨ b = p.su ∨ b = p.se ∨ b = p.wa := by simpa using hm
    rcases hm' with z | z | z | z
    · rw [z, d.n0] at e; cases e
    · rw [z, d.n1] at e; cases e
    · rw [z, d.n2] at e; cases e
    · rw [z, d.n3] at e; cases e
  have k1 : ∀ b o, H1 b = some o → cutH H [dv, p.su, p.se, p.wa] b = some o := fun b o e => by rw [cutH_out (o4 b o e)]; exact d.s _ _ e
  have o6 : ∀ b o, H0 b = some o → b ∉ [dv, p.su, p.se, p.wa, lg, q.cn] := fun b o e hm => by
    have hm' : b ∈ [dv, p.su, p.se, p.wa] ∨ b = lg ∨ b = q.cn := by simpa [or_assoc] using hm
    rcases hm' with z | z | z
    · exact o4 b o (l.s _ _ e) z
    · rw [z, l.n0] at e; cases e
    · rw [z, l.n1] at e; cases e
  have k0 : ∀ b o, H0 b = some o → cutH H [dv, p.su, p.se, p.wa, lg, q.cn] b = some o := fun b o e => by rw [cutH_out (o6 b o e)]; exact d.s _ _ (l.s _ _ e)
  have sub : Same (cutH H [dv, p.su, p.se, p.wa, lg, q.cn]) (cutH H [dv, p.su, p.se, p.wa]) := fun b o e => by
    by_cases hm : b ∈ [dv, p.su, p.se, p.wa, lg, q.cn]
    · rw [cutH_in hm] at e; cases e
    · rw [cutH_out hm] at e
      rw [cutH_out fun z => hm (by
        have z' : b = dv ∨ b = p.su ∨ b = p.se ∨ b = p.wa := by simpa using z
        rcases z' with z | z | z | z <;> simp [z])]
      exact e
  have dq : DevQ K (cutH H [dv, p.su, p.se, p.wa]) H dv lay st.dev p := d.side cutH_same (cutH_in (by simp)) (cutH_in (by simp)) (cutH_in (by simp)) (cutH_in (by simp)) (TK.refl H) rfl rfl rfl rfl
  refine ⟨cutH H [dv, p.su, p.se, p.wa, lg, q.cn], ⟨_, q, ⟨p, dq⟩, ⟨sub, cutH_in (by simp), cutH_in (by simp), k1 _ _ l.g0, k1 _ _ l.g1, l.d01, k1 _ _ l.p, k1 _ _ l.sl, l.rs.mono fun _ _ z => z.same fun b o e => k1 b o e, k1 _ _ l.qu⟩, y.same fun b o e => k0 b o e⟩, fun b o e => k0 b o e, fun b o e => ?_⟩
  by_cases hm : b ∈ [dv, p.su, p.se, p.wa, lg, q.cn]
  · have hm' : b = dv ∨ b = p.su ∨ b = p.se ∨ b = p.wa ∨ b = lg ∨ b = q.cn := by simpa using hm
    have obr : ∀ {xs : List (Option Blk)} {vs : List V}, All2 (OBR H) xs vs → ∀ v ∈ vs, v = .non ∨ ∃ t ys, v = .ref t ∧ H t = some (.tup ys) := fun {xs vs} r v hv => by
      obtain ⟨j, hj⟩ := List.mem_iff_getElem?.mp hv
      have hl : j < xs.length := by rw [r.1]; exact (List.getElem?_eq_some_iff.mp hj).1
      have := r.2 j _ _ (List.getElem?_eq_getElem hl) hj
      cases ex : xs[j] with
      | none => rw [ex] at this; exact .inl this
      | some bl => rw [ex] at this; obtain ⟨t, e1, tb, e2, _⟩ := this; exact .inr ⟨t, _, e1, e2⟩
    rcases hm' with z | z | z | z | z | z
    · rw [z, d.h0] at e; cases e; exact .inr (.inl ⟨_, _, _, rfl⟩)
    · rw [z, d.h1] at e; cases e; exact .inr (.inr ⟨_, rfl, obr d.r1⟩)
    · rw [z, d.h2] at e; cases e; exact .inr (.inr ⟨_, rfl, obr d.r2⟩)
    · rw [z, d.h3] at e; cases e
      refine .inr (.inr ⟨_, rfl, fun v hv => ?_⟩)
      obtain ⟨j, hj⟩ := List.mem_iff_getElem?.mp hv
      have hl : j < st.dev.waiting.length := by rw [d.r3.1]; exact (List.getElem?_eq_some_iff.mp hj).1
      obtain ⟨t, tb, e1, e2, _⟩ := d.r3.2 j _ _ (List.getElem?_eq_getElem hl) hj
      exact .inr ⟨t, _, e1, e2⟩
    · rw [z, d.s _ _ l.g0] at e; cases e; exact .inr (.inl ⟨_, _, _, rfl⟩)
    · rw [z, d.s _ _ l.g1] at e; cases e; exact .inr (.inl ⟨_, _, _, rfl⟩)
  · exact .inl (by rw [cutH_out hm]; exact e)
/-- objects that the log's own are not -/
def Apart (H HM : Hp) : Prop := ∀ b o, H b = some o → HM b = some o ∨ (∃ C dx fs, o = .ins C dx fs) ∨ ∃ vs, o = .lst vs ∧ ∀ v ∈ vs, v = .non ∨ ∃ t ys, v = .ref t ∧ H t = some (.tup ys)
theorem PayR.max {HM : Hp} {p : Pay} {v : V} (h : PayR H p v) (a : Apart H HM) : PayR HM p v := by
  obtain ⟨t, tb, e, h1, h2⟩ := h
  have k : ∀ b ys, H b = some (.tup ys) → HM b = some (.tup ys) := fun b ys e => by
    rcases a b _ e with z | ⟨_, _, _, z⟩ | ⟨_, z, _⟩
    · exact z
    · cases z
    · cases z
  exact ⟨t, tb, e, k _ _ h1, k _ _ h2⟩
theorem DicR.max {HM : Hp} {d : Addr} {kvs : List (Key × V)} {f : Cont} (h : DicR H d kvs f) (a : Apart H HM) : DicR HM d kvs f := by
  refine ⟨?_, h.nd, h.no, fun n p e => let ⟨v, a1, b⟩ := h.so n p e; ⟨v, a1, b.max a⟩, h.ky⟩
  rcases a d _ h.h with z | ⟨_, _, _, z⟩ | ⟨_, z, _⟩
  · exact z
  · cases z
  · cases z
theorem StaR.max {HM : Hp} {A : AS} {l : Addr} (h : StaR H A l) (a : Apart H HM) : StaR HM A l := by
  obtain ⟨vs0, d, kvs, h0, h1, h2, h3⟩ := h.fst
  obtain ⟨vs, e1, e2, e3, e4⟩ := h
  rw [h0] at e1
  cases e1
  refine ⟨vs0, ?_, e2.mono fun o v z => ?_, e3, e4⟩
  · rcases a l _ h0 with z | ⟨_, _, _, z⟩ | ⟨ws, z, hw⟩
    · exact z
    · cases z
    · cases z
      rcases hw _ (List.mem_of_getElem? h1) with q | ⟨t, ys, q, hq⟩
      · cases q
      · cases q
        rw [h2.h] at hq
        cases hq
  · cases o with
    | none => exact z
    | some f => obtain ⟨d, kvs, e, r⟩ := z; exact ⟨d, kvs, e, r.max a⟩
/-- the list of states is written -/
theorem LogO.mut {HB : Hp} {a s0 : Addr} {r : List V} {vs : List V} {v0 : V} {ys : List V} (h : LogO K HB H lg dv lay L st) (h3 : st.ls.slots.length = 3) (ha : HB a = some (.lst (.ref s0 :: r))) (hs : HB s0 = some (.lst vs)) (hv : vs[0]? = some v0) (hn : ∀ i : Int, v0 ≠ .int i) :
    LogO K (upd HB a (.lst ys)) (upd H a (.lst ys)) lg dv lay L st := by
  obtain ⟨H1, q, d, l, y⟩ := h.ex
  have ha1 := l.s _ _ ha
  have hs1 := l.s _ _ hs
  have nn : ∀ b zs, H1 b = some (.lst (nats zs)) → b ≠ a := fun b zs e q => by
    rw [q, ha1] at e
    cases zs with
    | nil => cases e
    | cons z zs => cases e
  have nsl : q.sl ≠ a := fun e => by
    have h1 := l.sl
    rw [e, ha1] at h1
    have h2 : V.ref s0 :: r = q.vsl := by injection h1 with h1; injection h1
    have hl := l.rs.1
    have e0 : st.ls.slots[0]? = some (st.ls.slots[0]'(by omega)) := List.getElem?_eq_getElem (by omega)
    have r0 := l.rs.2 0 _ (.ref s0) e0 (by rw [← h2]; rfl)
    cases ex : st.ls.slots[0]'(by omega) with
    | none => rw [ex] at r0; cases r0
    | some t =>
      rw [ex] at r0
      obtain ⟨p, e1, e2⟩ := r0
      cases e1
      rw [hs1] at e2
      cases e2
      cases t with
      | nil => simp [nats] at hv
      | cons z t => simp [nats] at hv; exact hn _ hv.symm
  have k : ∀ b o, b ≠ a → H1 b = some o → upd H1 a (.lst ys) b = some o := fun b o n e => by rw [upd_ne n]; exact e
  have ng : lg ≠ a := fun e => by rw [← e, l.n0] at ha; cases ha
  have nc : q.cn ≠ a := fun e => by rw [← e, l.n1] at ha; cases ha
  refine ⟨upd H1 a (.lst ys), q, d.put ha1 (fun xs z => by cases z), ⟨fun b o e => ?_, by rw [upd_ne ng]; exact l.n0, by rw [upd_ne nc]; exact l.n1, k _ _ ng l.g0, k _ _ nc l.g1, l.d01, k _ _ (nn _ _ l.p) l.p, k _ _ nsl l.sl, l.rs.mono fun o v z => ?_, k _ _ (nn _ _ l.qu) l.qu⟩, ?_⟩
  · by_cases z : b = a
    · subst z; rw [upd_same] at e ⊢; exact e
    · rw [upd_ne z] at e ⊢; exact l.s _ _ e
  · cases o with
    | none => exact z
    | some t => obtain ⟨p, e, z⟩ := z; exact ⟨p, e, k _ _ (nn _ _ z) z⟩
  · obtain ⟨dl, hl⟩ := y
    exact ⟨dl, by rw [upd_ne (fun e => by rw [e, ha] at hl; cases hl)]; exact hl⟩
theorem StaR.updA {A : AS} {l a s0 : Addr} {vs ws : List V} {u : HO} (h : StaR H A l) (ha : H a = some (.lst (.ref s0 :: vs))) (hs : H s0 = some (.lst ws)) : StaR (upd H a u) A l := by
  obtain ⟨vs0, d, kvs, h0, h1, h2, h3⟩ := h.fst
  obtain ⟨xs, e1, e2, e3, e4⟩ := h
  rw [h0] at e1
  cases e1
  have nl : l ≠ a := fun e => by
    rw [e, ha] at h0
    cases h0
    simp at h1
    subst h1
    rw [h2.h] at hs
    cases hs
  exact ⟨vs0, by rw [upd_ne nl]; exact h0, e2.mono fun _ _ z => z.updL ha, e3, e4⟩
end

end K30

namespace K30
open PySem PySem.Spec PyProof.Rows L2
/-! ## W46: an epoch -/
open K30X
/-- what stands in the base: the list of states, the present one, the script -/
structure EpB (K : PySem.W.Frag) (H0 HB H : Hp) (lg dv lay : Addr) (L : Lay) (st : St) (A : AS) (sts : List AS) (a sl z : Addr) (svs : List Addr) (xs : List Int) : Prop where
  lo : LogO K HB H lg dv lay L st
  s0 : Same H0 HB
  n0 : H0 a = none
  ha : HB a = some (.lst (svs.map V.ref))
  ss : All2 (StaR HB) sts svs
  sa : StaR HB A sl
  sc : SqL K HB z (xs.map V.int)
section
variable {K : PySem.W.Frag} {H0 HB H : Hp} {lg dv lay : Addr} {L : Lay} {st : St} {A : AS} {sts : List AS} {a sl z : Addr} {svs : List Addr} {xs : List Int}
theorem EpB.log {H' : Hp} {st' : St} (h : EpB K H0 HB H lg dv lay L st A sts a sl z svs xs) (l : LogO K HB H' lg dv lay L st') : EpB K H0 HB H' lg dv lay L st' A sts a sl z svs xs := ⟨l, h.s0, h.n0, h.ha, h.ss, h.sa, h.sc⟩
theorem EpB.grow {HB' : Hp} (h : EpB K H0 HB H lg dv lay L st A sts a sl z svs xs) (s : Same HB HB') (l : LogO K HB' H lg dv lay L st) : EpB K H0 HB' H lg dv lay L st A sts a sl z svs xs :=
  ⟨l, sT h.s0 s, h.n0, s _ _ h.ha, h.ss.mono fun _ _ q => q.same s, h.sa.same s, SqL.same h.sc s⟩
theorem EpB.set {A' : AS} {sl' : Addr} (h : EpB K H0 HB H lg dv lay L st A sts a sl z svs xs) (r : StaR HB A' sl') : EpB K H0 HB H lg dv lay L st A' sts a sl' z svs xs := ⟨h.lo, h.s0, h.n0, h.ha, h.ss, r, h.sc⟩
theorem EpB.app (h : EpB K H0 HB H lg dv lay L st A sts a sl z svs xs) (h3 : st.ls.slots.length = 3) (hp : 0 < sts.length) :
    EpB K H0 (upd HB a (.lst ((svs ++ [sl]).map V.ref))) (upd H a (.lst ((svs ++ [sl]).map V.ref))) lg dv lay L st A (sts ++ [A]) a sl z (svs ++ [sl]) xs := by
  have hl := h.ss.1
  obtain ⟨s0, r, e⟩ : ∃ s0 r, svs = s0 :: r := by
    cases svs with
    | nil => rw [List.length_nil] at hl; omega
    | cons s0 r => exact ⟨s0, r, rfl⟩
  have ha : HB a = some (.lst (.ref s0 :: r.map V.ref)) := by rw [h.ha, e]; rfl
  have r0 : StaR HB sts[0] s0 := h.ss.2 0 _ _ (List.getElem?_eq_getElem hp) (by rw [e]; rfl)
  obtain ⟨vs, d, kvs, h0, h1, h2, _⟩ := r0.fst
  refine ⟨h.lo.mut h3 ha h0 h1 (fun i q => by cases q), sM h.s0 h.n0, h.n0, upd_same, (h.ss.mono fun _ _ q => q.updA ha h0).snoc (h.sa.updA ha h0), h.sa.updA ha h0, ?_⟩
  have nz : ∀ u, HB z = some u → (u = .lst (xs.map V.int) ∨ ∃ o, u = .frz o (.lst (xs.map V.int))) → z ≠ a := fun u c cu q => by
    rw [q, ha] at c
    rcases cu with cu | ⟨o, cu⟩
    · rw [cu] at c
      cases xs with
      | nil => cases c
      | cons x xs => cases c
    · rw [cu] at c; cases c
  rcases h.sc with c | c
  · rcases c with c | ⟨o, c⟩
    · exact .inl (.inl (by rw [upd_ne (nz _ c (.inl rfl))]; exact c))
    · exact .inl (.inr ⟨o, by rw [upd_ne (nz _ c (.inr ⟨o, rfl⟩))]; exact c⟩)
  · exact .inr c
end
section
variable {P : Program} {w : World} {K : PySem.W.Frag} {mg : Str → Option Value} {base : Heap}
def sp__law_epoch (K : PySem.W.Frag) : Sp := fun vs H Q _ => ∃ (lg dv lay sl z : Addr) (H0 : Hp) (L : Lay) (st : St) (A : AS) (xs : List Int) (at_ : Nat), vs = [.ref lay, .ref lg, .ref sl, .ref z, .int (at_ : Int)] ∧ LogO K H0 H lg dv lay L st ∧ L.Ok ∧ SI L st A (fun A' => A' = A) ∧ Wb st 0 ∧ Wm st ∧ StaR H0 A sl ∧ SqL K H0 z (xs.map V.int) ∧ xs.length ≤ 63 ∧
  ∀ H' p st' A' sts svs, LogO K H0 H' lg dv lay L st' → SI L st' A' (fun B => B ∈ sts) → Wm st' → H' p = some (.lst (svs.map V.ref)) → All2 (StaR H') sts svs → Q (.ref p) H'
theorem sc__law_epoch : FnScope ["_law_layout_here", "_law_log", "_law_state", "_law_script", "_law_at", "_law_states", "_law_low", "_law_cut", "_law_when", "_law_k", "_law_row_here", "_law_kind", "_law_action", "_law_drop", "_law_ended", "_law_ids_here", "_law_payloads_here", "_law_used_here", "_law_begun"] ["_law_layout_here", "_law_log", "_law_state", "_law_script", "_law_at"] (defScope s__law_epoch) := ⟨rfl, rfl, rfl, by decide +kernel, rfl, by decide +kernel, by decide +kernel⟩
theorem cal__law_epoch (T : Txt K mg) (F : FD K mg "_law_epoch" s__law_epoch) (c__law_row : C8.Cal P w K mg base 1 "_law_row" (sp__law_row K) []) (c__law_digits : C8.Cal P w K mg base 1 "_law_digits" (sp__law_digits K) []) (c_Device_cut_after : C8.Met P w K mg base 1 (CD K) "cut_after" (sp_Device_cut_after K) []) (c__law_quiet : C8.Cal P w K mg base 8 "_law_quiet" (sp__law_quiet K) []) (c_Device_was_cut : C8.Met P w K mg base 1 (CD K) "was_cut" (sp_Device_was_cut K) []) (c__law_ids : C8.Cal P w K mg base 2 "_law_ids" (sp__law_ids K) []) (c__law_payloads : C8.Cal P w K mg base 2 "_law_payloads" (sp__law_payloads K) []) (c__law_used : C8.Cal P w K mg base 2 "_law_used" (sp__law_used K) []) (c_make_room : C8.Cal P w K mg base 7 "make_room" (sp_make_room K) [.str "greedy"]) (c_append_commit : C8.Cal P w K mg base 4 "append_commit" (sp_append_commit K) []) (c__law_after : C8.Cal P w K mg base 2 "_law_after" (sp__law_after K) []) : C8.Cal P w K mg base 9 "_law_epoch" (sp__law_epoch K) [] := by
  obtain ⟨f, fd, F, hm⟩ := F
  refine ⟨f, fd, _, _, F.ok sc__law_epoch (fun vs H Q E h => ?_) (fun cdv A outer s H vs Q E hr h => ?_), hm, F.kp, F.bindsN (fun _ _ _ _ _ _ us hl => match us, hl with | [_, _, _, _, _], _ => rfl), .nil⟩
  · obtain ⟨_, _, _, _, _, _, _, _, _, _, _, rfl, _⟩ := h
    rfl
  · obtain ⟨lg, dv, lay, sl, z, H0, L, st, A0, xs, at_, rfl, h, O, si, wb, wm, hsl, hz, xl, k⟩ := h
    have y := h.lay0
    refine ⟨_, PSs.nox (pss_cons (ps_set (i := 5) sc__law_epoch.nd rfl (Or.inl rfl) (pe_lst (pa_cons (pv 2) pa_nil)))
      (pss_cons (ps_set (i := 6) sc__law_epoch.nd rfl (Or.inl rfl) pe_int)
      (pss_cons (ps_asg (C8.pe_c c__law_digits hr (by decide) (by rfl) (pa_cons (C8.pe_c c__law_row hr (by decide) (by rfl) (pa_cons (pv 3) (pa_cons (pv 4) pa_nil))) (pa_cons (pe_lst (pa_cons pe_int (pa_cons pe_int pa_nil))) pa_nil))) (pg_unl rfl (pgs_cons (pg_name (i := 7) sc__law_epoch.nd rfl (Or.inl rfl)) (pgs_cons (pg_name (i := 8) sc__law_epoch.nd rfl (Or.inl rfl)) pgs_nil))))
      (C8.pss_cut (ps_if (pt_cmpR op_gt (pv 7) pe_int (nomark _)) (pss_one (ps_expr (C8.pe_mt c_Device_cut_after hr (by decide) (pe_fld (pv 1) rfl) (pa_cons (pv 8) pa_nil)))) pss_nil)
      (pss_cons (ps_for PassesOwn.never rfl (pi_range1 rfl T.b_range (pa_cons pe_int pa_nil)) (pg_name (i := 9) sc__law_epoch.nd rfl (Or.inl rfl)) (pss_cons (ps_set (i := 10) sc__law_epoch.nd rfl (Or.inl rfl) (C8.pe_c c__law_row hr (by decide) (by rfl) (pa_cons (pv 3) (pa_cons (pe_op op_add (pe_op op_add (pv 4) pe_int) (pv 9)) pa_nil))))
      (pss_cons (ps_asg (C8.pe_c c__law_digits hr (by decide) (by rfl) (pa_cons (pv 10) (pa_cons (pe_lst (pa_cons pe_int (pa_cons pe_int (pa_cons pe_int pa_nil)))) pa_nil))) (pg_unl rfl (pgs_cons (pg_name (i := 11) sc__law_epoch.nd rfl (Or.inl rfl)) (pgs_cons (pg_name (i := 12) sc__law_epoch.nd rfl (Or.inl rfl)) (pgs_cons (pg_name (i := 13) sc__law_epoch.nd rfl (Or.inl rfl)) pgs_nil)))))
      (C8.pss_cut (ps_if (pt_cmpR op_gt (pv 12) pe_int (nomark _)) (pss_one (ps_set (i := 12) sc__law_epoch.nd rfl (Or.inl rfl) pe_int)) pss_nil)
      (pss_one (ps_if (pt_cmpR op_eq (pv 11) pe_int (nomark _)) (pss_cons (ps_set (i := 14) sc__law_epoch.nd rfl (Or.inl rfl) (C8.pe_c c__law_quiet hr (by decide) (by rfl) (pa_cons (pv 0) (pa_cons (pv 1) (pa_cons (pe_op op_fdiv (pv 10) pe_int) pa_nil)))))
      (pss_one (ps_if (PW.pt (pw_and (pt_val (pv 14)) (pw_and1 (pt_not (pt_val (C8.pe_mt0 c_Device_was_cut hr (by decide) (pe_fld (pv 1) rfl))))))) (pss_one (ps_set (i := 6) sc__law_epoch.nd rfl (Or.inl rfl) (pe_op op_sub (pe_callB call_len_seq (by rfl) T.b_len PySem.boot_len (pa_cons (pv 5) pa_nil)) pe_int))) pss_nil))) (pss_cons (ps_set (i := 15) sc__law_epoch.nd rfl (Or.inl rfl) (C8.pe_c c__law_ids hr (by decide) (by rfl) (pa_cons (pv 0) (pa_cons (pe_op op_fdiv (pv 10) pe_int) pa_nil))))
      (pss_cons (ps_set (i := 16) sc__law_epoch.nd rfl (Or.inl rfl) (C8.pe_c c__law_payloads hr (by decide) (by rfl) (pa_cons (pv 0) (pa_cons (C8.pe_c c__law_row hr (by decide) (by rfl) (pa_cons (pv 3) (pa_cons (pe_op op_add (pe_op op_add (pv 4) pe_int) (pv 9)) pa_nil))) (pa_cons (pe_callB call_len_seq (by rfl) T.b_len PySem.boot_len (pa_cons (pv 15) pa_nil)) pa_nil)))))
      (pss_cons (ps_set (i := 17) sc__law_epoch.nd rfl (Or.inl rfl) (C8.pe_c c__law_used hr (by decide) (by rfl) (pa_cons (pv 0) (pa_cons (pe_ix ix_list (pv 2) pe_int (fun _ _ => rfl)) (pa_cons (pv 15) (pa_cons (pv 13) pa_nil))))))
      (pss_cons (ps_expr (C8.pe_c c_make_room hr (by decide) (by rfl) (pa_cons (pv 1) (pa_cons (pe_callB call_len_seq (by rfl) T.b_len PySem.boot_len (pa_cons (pv 15) pa_nil)) pa_nil))))
      (pss_cons (ps_set (i := 18) sc__law_epoch.nd rfl (Or.inl rfl) (pe_not (C8.pe_mt0 c_Device_was_cut hr (by decide) (pe_fld (pv 1) rfl))))
      (pss_one (ps_if (pt_val (C8.pe_c c_append_commit hr (by decide) (by rfl) (pa_cons (pv 1) (pa_cons (pv 15) (pa_cons (pv 16) (pa_cons (pv 17) (pa_cons (pv 12) pa_nil))))))) (pss_cons (ps_set (i := 2) sc__law_epoch.nd rfl (Or.inl rfl) (C8.pe_c c__law_after hr (by decide) (by rfl) (pa_cons (pv 2) (pa_cons (pv 15) (pa_cons (pv 16) (pa_cons (pv 17) (pa_cons (pv 12) pa_nil)))))))
      (pss_one (ps_if (pt_val (pv 18)) (pss_one (ps_expr (pe_bm PySem.F.plainAttrs_list PySem.F.slot_list_append PySem.F.type_list_append mt_append (pv 5) (pa_cons (pv 2) pa_nil)))) pss_nil))) pss_nil)))))))))))))
      (pss_one (ps_ret (pe_slice sl_list (pv 5) (po_some (pv 6)) po_none)))))))), ?_⟩
    refine ⟨_, rfl, by show 1 ≤ sizeLine; decide, fun a ha => ?_⟩
    have s1 : Same H (upd H a (.lst [.ref sl])) := sN (sR H) ha
    have h1 := h.ext s1
    have f1 := ext_same (H' := upd H a (.lst [.ref sl])) h.frame
    have B1 : EpB K H0 (ext H0 H (upd H a (.lst [.ref sl]))) (upd H a (.lst [.ref sl])) lg dv lay L st A0 [A0] a sl z [sl] xs :=
      ⟨h1, f1, sF h.frame ha, (ext_new ha).trans upd_same, All2.cons (hsl.same f1) .nil, hsl.same f1, SqL.same hz f1⟩
    refine ⟨_, rfl, _, rfl, z, xs, at_, rfl, SqL.same (SqL.same hz h.frame) s1, xl, fun r => ⟨by show 2 ≤ sizeLine; decide, fun pz hpz => ?_⟩⟩
    refine ⟨r, pz, [4, 80], rfl, upd_same, by decide, by decide, fun H2 p s2 hp hds => ?_⟩
    have s12 := sT (sN (o := .lst [V.int 4, V.int 80]) (sR (upd H a (.lst [.ref sl]))) hpz) s2
    refine ⟨p, _, rfl, SqL.of hds, rfl, _, _, rfl, _, _, rfl, rfl, ?_⟩
    have B2 := B1.log (B1.lo.same s12)
    generalize r % 4 = cu
    generalize r / 4 % 80 = wh
    have E0 : Ep L st A0 [A0] 0 0 := ⟨si.mono fun A' e => ⟨0, Nat.le_refl _, by rw [e]; rfl⟩, wb, Nat.zero_lt_one, fun _ => rfl⟩
    refine ⟨fun σ G => ∃ st', σ = [some (.ref lay), some (.ref lg), some (.ref sl), some (.ref z), some (.int (at_ : Int)), some (.ref a), some (.int ((0 : Nat) : Int)), some (.int (cu : Int)), some (.int (wh : Int)), none, none, none, none, none, none, none, none, none, none] ∧ EpB K H0 (ext H0 H (upd H a (.lst [.ref sl]))) G lg dv lay L st' A0 [A0] a sl z [sl] xs ∧ Ep L st' A0 [A0] 0 0 ∧ Wm st', ?_, ?_⟩
    · refine ⟨_, rfl, _, _, rfl, rfl, _, rfl, ?_⟩
      by_cases c1 : (0 : Int) < (cu : Int)
      · refine dT c1 ?_
        obtain ⟨G1, q, w2, y2⟩ := B2.lo.opn
        obtain ⟨pd, hpd⟩ := w2.hd
        refine ⟨_, rfl, lg, _, q.dx, _, _, rfl, w2.h0, T.cG, T.nG_device, rfl, dv, _, _, rfl, hpd, rfl, _, rfl, dv, lay, G1, st.dev, wh, rfl, w2.d, fun H3 d3 => ?_⟩
        refine ⟨cutSt st wh, rfl, B2.log ⟨G1, q, d3, w2.l, y2⟩, ⟨cut_ok E0.si wh, (wd_cut wb).1, Nat.zero_lt_one, fun _ => rfl⟩, wm_cut wm⟩
      · refine dF c1 ?_
        exact ⟨st, rfl, B2, E0, wm⟩
    rintro σ G ⟨st1, rfl, B3, E3, wm3⟩
    refine ⟨_, rfl, by omega, by omega, for_it walk_range (fun i σ H' => ∃ (v9 v10 v11 v12 v13 v14 v15 v16 v17 v18 : Option V) (HB : Hp) (st' : St) (A : AS) (sts : List AS) (low : Nat) (sl' : Addr) (svs : List Addr),
        σ = [some (.ref lay), some (.ref lg), some (.ref sl'), some (.ref z), some (.int (at_ : Int)), some (.ref a), some (.int (low : Int)), some (.int (cu : Int)), some (.int (wh : Int)), v9, v10, v11, v12, v13, v14, v15, v16, v17, v18] ∧ EpB K H0 HB H' lg dv lay L st' A sts a sl' z svs xs ∧ Ep L st' A sts low i ∧ Wm st' ∧ sts.length ≤ i + 1)
      ⟨none, none, none, none, none, none, none, none, none, none, _, st1, A0, [A0], 0, sl, [sl], rfl, B3, E3, wm3, Nat.le_refl _⟩ (fun _ _ _ _ _ => trivial) ?_ ?_⟩
    · rintro i x σ H4 H5 hlt ⟨v9, v10, v11, v12, v13, v14, v15, v16, v17, v18, HB, st2, A, sts, low, sl', svs, rfl, B, E, wm2, stl⟩ ⟨rfl, rfl⟩
      have ei : (fun (j : Nat) => V.int (0 + (j : Int))) i = V.int (i : Int) := by
        show V.int (0 + (i : Int)) = _
        rw [Int.zero_add]
      rw [ei]
      have hi : i < 12 := by omega
      refine ⟨_, rfl, _, rfl, _, _, rfl, rfl, _, rfl, _, _, rfl, rfl, z, xs, at_ + 1 + i, ?_, SqL.same B.sc B.lo.frame, xl, fun row => ?_⟩
      · show [V.ref z, V.int ((at_ : Int) + 1 + (i : Int))] = [V.ref z, V.int ((at_ + 1 + i : Nat) : Int)]
        rw [show (at_ : Int) + 1 + (i : Int) = ((at_ + 1 + i : Nat) : Int) by omega]
      refine ⟨_, rfl, by show 3 ≤ sizeLine; decide, fun pz hpz => ?_⟩
      refine ⟨row, pz, [3, 9, 50], rfl, upd_same, by decide, by decide, fun H6 p6 s6 hp6 hds6 => ?_⟩
      have s56 := sT (sN (o := .lst [V.int 3, V.int 9, V.int 50]) (sR H5) hpz) s6
      refine ⟨p6, _, rfl, SqL.of hds6, rfl, _, _, rfl, _, _, rfl, _, _, rfl, rfl, ?_⟩
      have B6 := B.log (B.lo.same s56)
      have a9 : row / 3 % 9 < 9 := Nat.mod_lt _ (by omega)
      generalize row % 3 = kd
      generalize row / 3 % 9 = act0 at a9
      generalize row / 3 / 9 % 50 = dr
      refine ⟨fun σ G => ∃ act : Nat, act ≤ 6 ∧ σ = [some (.ref lay), some (.ref lg), some (.ref sl'), some (.ref z), some (.int (at_ : Int)), some (.ref a), some (.int (low : Int)), some (.int (cu : Int)), some (.int (wh : Int)), some (.int (i : Int)), some (.int (row : Int)), some (.int (kd : Int)), some (.int (act : Int)), some (.int (dr : Int)), v14, v15, v16, v17, v18] ∧ G = H6, ?_, ?_⟩
      · refine ⟨_, rfl, _, _, rfl, rfl, _, rfl, ?_⟩
        by_cases c1 : (6 : Int) < (act0 : Int)
        · refine dT c1 ?_
          exact ⟨0, by omega, rfl, rfl⟩
        · refine dF c1 ?_
          exact ⟨act0, by omega, rfl, rfl⟩
      rintro σ G ⟨act, ha6, rfl, rfl⟩
      refine ⟨_, rfl, rfl, _, rfl, ?_⟩
      have eq1350 : (row : Int) / 1350 = ((row / 1350 : Nat) : Int) := by omega
      by_cases c1 : V.int (kd : Int) = V.int 0
      · refine dT c1 ?_
        refine ⟨_, rfl, _, rfl, _, rfl, _, _, rfl, rfl, ⟨by omega, by omega⟩, lg, dv, lay, HB, L, st2, row / 1350, 40 * i, A, _, ?_, B6.lo, O, E.si, E.wb, wm2, by omega, fun H7 st3 b qr h7 => ?_⟩
        · show [V.ref lay, V.ref lg, V.int ((row : Int) / 1350)] = _
          rw [eq1350]
        have B7 := B6.log h7
        refine ⟨_, rfl, _, rfl, ?_⟩
        cases b with
        | false =>
          refine iteF ?_
          refine iteF ?_
          exact ⟨_, _, _, _, _, _, _, _, _, _, HB, st3, A, sts, low, sl', svs, rfl, B7, E.keep qr.si qr.wb qr.dk, qr.wm, by omega⟩
        | true =>
          refine iteT ?_
          obtain ⟨G7, q7, w7, y7⟩ := h7.opn
          obtain ⟨pd7, hpd7⟩ := w7.hd
          refine ⟨_, rfl, lg, _, q7.dx, _, _, rfl, w7.h0, T.cG, T.nG_device, rfl, dv, _, _, rfl, hpd7, rfl, dv, lay, G7, st3.dev, rfl, w7.d, _, rfl, ?_⟩
          cases hd : st3.dev.dark with
          | true =>
            refine iteF ?_
            exact ⟨_, _, _, _, _, _, _, _, _, _, HB, st3, A, sts, low, sl', svs, rfl, B7, E.keep qr.si qr.wb qr.dk, qr.wm, by omega⟩
          | false =>
            refine iteT ?_
            refine ⟨_, rfl, a, _, rfl, .inl (SqL.of (h7.frame _ _ B7.ha)), _, _, rfl, rfl, ?_⟩
            have hlo := E.lo
            have el : (((svs.map V.ref).length : Nat) : Int) - 1 = ((sts.length - 1 : Nat) : Int) := by rw [List.length_map, ← B7.ss.1]; omega
            refine ⟨some (.int (i : Int)), some (.int (row : Int)), some (.int (kd : Int)), some (.int (act : Int)), some (.int (dr : Int)), some (.bl true), v15, v16, v17, v18, HB, st3, A, sts, sts.length - 1, sl', svs, ?_, B7, Ep.quiet (S := fun A' => A' = A) E (qr.ti rfl) qr.wb qr.dk hd, qr.wm, by omega⟩
            rw [← el]; rfl
      · refine dF c1 ?_
        obtain ⟨dl, hl⟩ := B6.lo.layA
        refine ⟨_, rfl, _, rfl, _, _, rfl, rfl, ⟨by omega, by omega⟩, lay, row / 1350, L, ?_, B6.lo.layA, O, fun H7 pi ids s7 hpi hids nd pos il => ?_⟩
        · show [V.ref lay, V.int ((row : Int) / 1350)] = _
          rw [eq1350]
        refine ⟨_, rfl, _, rfl, _, rfl, _, _, rfl, rfl, _, rfl, _, _, rfl, rfl, z, xs, at_ + 100 + i, ?_, SqL.same (SqL.same B6.sc B6.lo.frame) s7, xl, fun row2 => ⟨_, rfl, pi, _, rfl, .inl (SqL.of hids), lay, row2, ids.length, L, ?_, B6.lo.layA.same s7, O, by omega, fun H8 pp vps pays s8 hpp hvps ra pl pk => ?_⟩⟩
        · show [V.ref z, V.int ((at_ : Int) + 100 + (i : Int))] = [V.ref z, V.int ((at_ + 100 + i : Nat) : Int)]
          rw [show (at_ : Int) + 100 + (i : Int) = ((at_ + 100 + i : Nat) : Int) by omega]
        · rw [nats_len]; rfl
        have s78 := sT s7 s8
        obtain ⟨vs, d, kvs, hvs, ev0, r0, v4⟩ := B6.sa.fst
        have fr8 : Same HB H8 := sT B6.lo.frame s78
        refine ⟨_, rfl, _, rfl, sl', _, _, _, rfl, rfl, SqL.of (fr8 _ _ hvs), atI_nat (j := 0) ev0, _, rfl, _, rfl, lay, d, pi, dr, L, kvs, ids, rfl, B6.lo.layA.same s78, O, fr8 _ _ r0.h, s8 _ _ hids, fun H9 pu us s9 hpu hus um ul => ?_⟩
        have s69 := sT s78 s9
        obtain ⟨HM, lm, sm, ap⟩ := (B6.lo.ext s69).max
        have gr : Same HB HM := sT (ext_same (H' := H9) B6.lo.frame) sm
        have B9 := (B6.log (B6.lo.same s69)).grow gr lm
        have mpi : HM pi = some (.lst (nats ids)) := sm _ _ ((ext_new hpi).trans (s9 _ _ (s8 _ _ hids)))
        have mpp : HM pp = some (.lst vps) := sm _ _ ((ext_new (sF s7 hpp)).trans (s9 _ _ hvps))
        have mpu : HM pu = some (.lst (nats us)) := sm _ _ ((ext_new (sF s78 hpu)).trans hus)
        have mra : All2 (PayR HM) pays vps := ra.mono fun _ _ q => (q.same s9).max ap
        refine ⟨_, rfl, _, rfl, pi, _, rfl, .inl (SqL.of (lm.frame _ _ mpi)), lg, dv, lay, HM, L, st2, ids.length, "greedy", A, _, ?_, lm, O, E.si, E.wb.mono (by omega), fun H10 st3 b room h10 => ?_⟩
        · rw [nats_len]; rfl
        have wd3 := wd_room room E.wb
        have E3 : Ep L st3 A sts low i := ⟨room_ok O E.si room, wd3.1, E.lo, fun q => E.la (wd3.2 q)⟩
        have wm4 := wm_room O room wm2 E.wb (by omega)
        obtain ⟨G10, q10, w10, y10⟩ := h10.opn
        obtain ⟨pd10, hpd10⟩ := w10.hd
        refine ⟨_, rfl, lg, _, q10.dx, _, _, rfl, w10.h0, T.cG, T.nG_device, rfl, dv, _, _, rfl, hpd10, rfl, dv, lay, G10, st3.dev, rfl, w10.d, _, rfl, ?_⟩
        refine ⟨_, rfl, _, rfl, _, rfl, _, rfl, _, rfl, lg, dv, lay, HM, L, st3, pi, pp, pu, ids, us, act, vps, pays, rfl, h10, O, mpi, mpu, mpp, mra, pl, by omega, ul, ha6, E3.si.fit O (E3.wb.mono (by omega)), fun e H11 h11 => ⟨_, rfl, ?_⟩, fun st4 e H11 h11 => ⟨_, rfl, ?_⟩⟩
        · refine iteF ?_
          exact ⟨_, _, _, _, _, _, _, _, _, _, HM, st3, A, sts, low, sl', svs, rfl, B9.log h11, ⟨E3.si, E3.wb.mono (by omega), E3.lo, E3.la⟩, wm4, by omega⟩
        · refine iteT ?_
          have E4 := E3.com O pl pk nd pos um ha6 ul (by omega) e
          have wm5 : Wm st4 := wm_com wm4 E3.wb (by omega) (by omega) e
          have B11 := B9.log h11
          have fm := h11.frame
          refine ⟨_, rfl, _, rfl, _, rfl, _, rfl, _, rfl, sl', pi, pp, pu, act, A, ids, us, vps, pays, rfl, B11.sa.same fm, fm _ _ mpi, fm _ _ mpp, mra.mono fun _ _ q => q.same fm, pl, fm _ _ mpu, ha6, ul, fun H12 p12 s12 hp12 r12 => ?_⟩
          obtain ⟨HM2, lm2, sm2, ap2⟩ := (h11.same s12).max
          have B12 := ((B11.log (h11.same s12)).grow sm2 lm2).set (r12.max ap2)
          refine ⟨_, rfl, _, rfl, ?_⟩
          cases hd : st3.dev.dark with
          | true =>
            refine iteF ?_
            rw [if_neg (by rw [hd]; exact fun q => by cases q)] at E4
            exact ⟨_, _, _, _, _, _, _, _, _, _, HM2, st4, _, sts, low, p12, svs, rfl, B12, E4, wm5, by omega⟩
          | false =>
            refine iteT ?_
            rw [if_pos hd] at E4
            have hlo := E.lo
            have B13 := B12.app E4.si.ok.ok.slen (by omega)
            have em : (svs ++ [p12]).map V.ref = svs.map V.ref ++ [V.ref p12] := by rw [List.map_append]; rfl
            rw [em] at B13
            have h12 : H12 a = some (.lst (svs.map V.ref)) := lm2.frame _ _ B12.ha
            refine ⟨_, rfl, .inl ⟨rfl, _, SqL.of h12⟩, _, rfl, a, _, _, rfl, rfl, h12, Nat.lt_of_le_of_lt (show (svs.map V.ref).length ≤ 100 by rw [List.length_map, ← B.ss.1]; omega) (by decide), ?_⟩
            exact ⟨_, _, _, _, _, _, _, _, _, _, _, st4, _, _, low, p12, svs ++ [p12], rfl, B13, E4, wm5, by rw [List.length_append]; simp; omega⟩
    · rintro σ H4 ⟨v9, v10, v11, v12, v13, v14, v15, v16, v17, v18, HB, st2, A, sts, low, sl', svs, rfl, B, E, wm2, stl⟩
      have hm := B.lo.frame
      refine ⟨_, rfl, _, rfl, _, rfl, a, _, rfl, SqL.of (hm _ _ B.ha), fun p hp => ?_⟩
      have s5 := sN (o := .lst (cutV (svs.map V.ref) (some (low : Int)) none)) (sR H4) hp
      refine k _ p st2 A (sts.drop low) (svs.drop low) ((B.lo.same s5).shrink B.s0 y) (E.si.mono fun A' ⟨j, h1, h2⟩ => ?_) wm2 ?_ ?_
      · exact List.mem_of_getElem? (i := j - low) (by rw [List.getElem?_drop, show low + (j - low) = j by omega]; exact h2)
      · rw [upd_same, cutV_from, List.map_drop]
      · refine ⟨by rw [List.length_drop, List.length_drop, B.ss.1], fun j x y h1 h2 => ?_⟩
        rw [List.getElem?_drop] at h1 h2
        exact ((B.ss.2 _ _ _ h1 h2).same hm).same s5
end

end K30

namespace K30
open PySem PySem.Spec PyProof.Rows L2
/-! ## W47: a state is among the states -/
open K30X
def payD (p : Pay) : PyData := .tuple [.int (p.1 : Int), .tuple (p.2.map fun (n : Nat) => .int (n : Int))]
theorem ints_lay : ∀ xs : List Nat, PyData.canLayAll0 (xs.map fun (n : Nat) => PyData.int (n : Int)) = true
  | [] => by simp [PyData.canLayAll0]
  | x :: xs => by simp [PyData.canLayAll0, PyData.canLay0, ints_lay xs]
theorem ints_depth : ∀ xs : List Nat, PyData.depthAll (xs.map fun (n : Nat) => PyData.int (n : Int)) ≤ 1
  | [] => by simp [PyData.depthAll]
  | x :: xs => by
    have h1 := ints_depth xs
    simp only [List.map_cons, PyData.depthAll, PyData.depth]
    omega
theorem payD_lay (p : Pay) : (payD p).canLay0 = true := by simp [payD, PyData.canLay0, PyData.canLayAll0, ints_lay p.2]
theorem payD_depth (p : Pay) : (payD p).depth ≤ 10 := by
  have := ints_depth p.2
  simp only [payD, PyData.depth, PyData.depthAll]
  omega
section
variable {X : Cx} {pins : List (Addr × Obj)} {σ : L2.St} {H : Hp} {s : Shared}
theorem dp_ints (K : PySem.W.Frag) : ∀ xs : List Nat, DpAll K H (nats xs) (xs.map fun (n : Nat) => PyData.int (n : Int))
  | [] => .nil
  | x :: xs => .cons (.int _) (dp_ints K xs)
theorem dp_pay {K : PySem.W.Frag} {p : Pay} {v : V} (h : PayR H p v) : Dp K H v (payD p) := by
  obtain ⟨t, tb, rfl, h1, h2⟩ := h
  exact .tup (SqT.of h1) (.cons (.int _) (.cons (.tup (SqT.of h2) (dp_ints K p.2)) .nil))
theorem eqP_pay {A : Around} (I : Inv X pins σ H s) (hu : A.units + 12 < cLine) {p p' : Pay} {v v' : V} {u u' : Value} (h : PayR H p v) (h' : PayR H p' v') (r : RelV v u) (r' : RelV v' u') : ∃ b, SeqAt.EqP X.prog X.w A s u u' b ∧ (p = p' → b = true) := by
  obtain ⟨as, ra⟩ := Dp.reads I _ _ _ (dp_pay (K := X.K) h) r
  obtain ⟨bs, rb⟩ := Dp.reads I _ _ _ (dp_pay (K := X.K) h') r'
  have d1 := payD_depth p
  refine ⟨_, (PySem.SeqAt.eqAt_reads (payD p) (payD p') A s u u' as bs ra rb (payD_lay p) (payD_lay p') (by omega)).eqP, fun e => ?_⟩
  subst e
  exact PySem.SeqAt.eqv_refl _ (payD_lay p)
theorem valV_nodup : ∀ {kvs : List (Key × V)}, (kvs.map (·.1)).Nodup → ∀ p ∈ kvs, valV kvs p.1 = some p.2
  | [], _, p, hp => by cases hp
  | q :: kvs, nd, p, hp => by
    have n := List.nodup_cons.mp nd
    unfold valV
    rw [List.find?_cons]
    rcases List.mem_cons.mp hp with e | hp
    · rw [e, decide_eq_true rfl]; rfl
    · have hne : ¬ q.1 = p.1 := fun e => n.1 (List.mem_map.mpr ⟨p, hp, e.symm⟩)
      rw [decide_eq_false hne]
      exact valV_nodup n.2 p hp
theorem hits_dic {A : Around} (I : Inv X pins σ H s) (hu : A.units + 12 < cLine) {f g : Cont} {ls : List (Key × V)} {vb : List (Key × Value)} {d' : Addr} (h' : DicR H d' ls g) (rb : KV ls vb) : ∀ {ks : List (Key × V)} {va : List (Key × Value)}, KV ks va →
    (∀ p ∈ ks, ∃ (n : Nat) (q : Pay), p.1 = Sum.inl (n : Int) ∧ f n = some q ∧ PayR H q p.2) → ∃ r, PySem.W.KeqHitsP X.prog X.w A s vb va r ∧ (f = g → r = true) := by
  intro ks va ra
  unfold KV at ra
  induction ra with
  | nil => exact fun _ => ⟨true, .nil, fun _ => rfl⟩
  | @cons p q ps qs h t ih =>
    intro hp
    obtain ⟨h1, h2⟩ := h
    obtain ⟨n, pay, e1, e2, e3⟩ := hp p List.mem_cons_self
    obtain ⟨r, k1, k2⟩ := ih fun p' hm => hp p' (List.mem_cons_of_mem _ hm)
    obtain ⟨key, v⟩ := q
    have h1' : p.1 = key := h1
    have ek : key = Sum.inl (n : Int) := h1'.symm.trans e1
    have rr := rb.val key
    cases eg : g n with
    | none =>
      rw [ek, h'.no n eg] at rr
      refine ⟨false, .miss ?_, fun e => ?_⟩
      · rw [ek]
        cases ev : valueAt vb (Sum.inl (n : Int)) with
        | none => rfl
        | some y => rw [ev] at rr; cases rr
      · rw [e, eg] at e2; cases e2
    | some pay' =>
      obtain ⟨v', ev', rp'⟩ := h'.so n pay' eg
      rw [ek, ev'] at rr
      obtain ⟨y, hy, ry⟩ := rr.some_of
      obtain ⟨b, k3, k4⟩ := eqP_pay I hu e3 rp' h2 ry
      refine ⟨b && r, .hit (by rw [ek]; exact hy) k3 k1, fun e => ?_⟩
      rw [k2 e, k4 (by rw [e, eg] at e2; exact (Option.some.inj e2).symm)]; rfl
theorem eqP_dic {A : Around} (I : Inv X pins σ H s) (hu : A.units + 14 < cLine) {f g : Cont} {ks ls : List (Key × V)} {d d' : Addr} (h : DicR H d ks f) (h' : DicR H d' ls g) : ∃ b, SeqAt.EqP X.prog X.w A s (.ref d) (.ref d') b ∧ (f = g → b = true) := by
  by_cases e : d = d'
  · subst e
    exact ⟨true, (SeqAt.EqAt.same _).eqP, fun _ => rfl⟩
  · obtain ⟨_, ya, va, ra, da⟩ := (show ObjOk X.prog X.w H s.heap d (.dK ks) from I.hok d _ h.h)
    obtain ⟨_, yb, vb, rb, db⟩ := (show ObjOk X.prog X.w H s.heap d' (.dK ls) from I.hok d' _ h'.h)
    obtain ⟨r, k1, k2⟩ := hits_dic (A := A.in1) I (by show A.units + 1 + 12 < cLine; omega) (f := f) (g := g) h' rb ra fun p hp => by
      obtain ⟨n, en⟩ := h.ky p.1 (List.mem_map.mpr ⟨p, hp, rfl⟩)
      have ev := valV_nodup h.nd p hp
      rw [en] at ev
      cases ef : f n with
      | none => rw [h.no n ef] at ev; cases ev
      | some q =>
        obtain ⟨v, ev2, rp⟩ := h.so n q ef
        rw [ev] at ev2
        cases ev2
        exact ⟨n, q, en, ef, rp⟩
    refine ⟨_, SeqAt.eqP_refs e (PySem.W.rcP_dicts (knd := mixKind X.prog X.w) (r := r) ya yb da db (by omega) fun _ => k1), fun ef => ?_⟩
    rw [k2 ef, Bool.and_true, beq_iff_eq, ← ra.length, ← rb.length]
    have pm : (ks.map (·.1)).Perm (ls.map (·.1)) := by
      rw [List.perm_ext_iff_of_nodup h.nd h'.nd]
      have one : ∀ {f g : Cont} {ks ls : List (Key × V)} {d d' : Addr}, DicR H d ks f → DicR H d' ls g → f = g → ∀ k, k ∈ ks.map (·.1) → k ∈ ls.map (·.1) := by
        intro f g ks ls d d' h h' ef k hk
        obtain ⟨n, en⟩ := h.ky k hk
        have := valV_mem.mpr hk
        rw [en] at this
        rw [en]
        refine valV_mem.mp ?_
        cases eg : g n with
        | none => rw [h.no n (by rw [ef]; exact eg)] at this; cases this
        | some q => obtain ⟨v, ev, _⟩ := h'.so n q eg; rw [ev]; rfl
      exact fun k => ⟨one h h' ef k, one h' h ef.symm k⟩
    have := pm.length_eq
    rw [List.length_map, List.length_map] at this
    exact this
theorem eqP_con {A : Around} (I : Inv X pins σ H s) (hu : A.units + 14 < cLine) {o o' : Option Cont} {v v' : V} {u u' : Value} (h : ConR H o v) (h' : ConR H o' v') (r : RelV v u) (r' : RelV v' u') : ∃ b, SeqAt.EqP X.prog X.w A s u u' b ∧ (o = o' → b = true) := by
  cases o with
  | none =>
    have e1 : v = .non := h
    subst e1
    cases r
    cases o' with
    | none =>
      have e2 : v' = .non := h'
      subst e2
      cases r'
      exact ⟨true, (SeqAt.EqAt.same _).eqP, fun _ => rfl⟩
    | some g =>
      obtain ⟨d', ls, rfl, k'⟩ := h'
      cases r'
      obtain ⟨_, yb, vb, rb, db⟩ := (show ObjOk X.prog X.w H s.heap d' (.dK ls) from I.hok d' _ k'.h)
      exact ⟨false, eqP_none_dict (knd := mixKind X.prog X.w) db (by omega), fun e => by cases e⟩
  | some f =>
    obtain ⟨d, ks, rfl, k⟩ := h
    cases r
    cases o' with
    | none =>
      have e2 : v' = .non := h'
      subst e2
      cases r'
      obtain ⟨_, yb, vb, rb, db⟩ := (show ObjOk X.prog X.w H s.heap d (.dK ks) from I.hok d _ k.h)
      exact ⟨false, eqP_dict_none (knd := mixKind X.prog X.w) db (by omega), fun e => by cases e⟩
    | some g =>
      obtain ⟨d', ls, rfl, k'⟩ := h'
      cases r'
      obtain ⟨b, k1, k2⟩ := eqP_dic I hu k k'
      exact ⟨b, k1, fun e => k2 (Option.some.inj e)⟩
theorem eqP_sta {A : Around} (I : Inv X pins σ H s) (hu : A.units + 16 < cLine) {B C : AS} {l l' : Addr} (h : StaR H B l) (h' : StaR H C l') : ∃ b, SeqAt.EqP X.prog X.w A s (.ref l) (.ref l') b ∧ (B = C → b = true) := by
  by_cases e : l = l'
  · subst e
    exact ⟨true, (SeqAt.EqAt.same _).eqP, fun _ => rfl⟩
  · obtain ⟨vs, e1, e2, e3, _⟩ := h
    obtain ⟨ws, f1, f2, f3, _⟩ := h'
    obtain ⟨us, r1, p1, _⟩ := I.list (SqL.of e1)
    obtain ⟨xs, r2, p2, _⟩ := I.list (SqL.of f1)
    have l1 := r1.length
    have l2 := r2.length
    have m1 := e2.1
    have m2 := f2.1
    have one : ∀ j, ∃ b, (∀ (h1 : j < us.toArray.size) (h2 : j < xs.toArray.size), SeqAt.EqP X.prog X.w A.in1 s us.toArray[j] xs.toArray[j] b) ∧ (B = C → b = true) := fun j => by
      by_cases hj : j < us.length
      · have hj1 : j < vs.length := by omega
        have hj2 : j < ws.length := by omega
        have hB : B[j]? = some (B[j]'(by omega)) := List.getElem?_eq_getElem (by omega)
        have hC : C[j]? = some (C[j]'(by omega)) := List.getElem?_eq_getElem (by omega)
        have hv : vs[j]? = some vs[j] := List.getElem?_eq_getElem hj1
        have hw : ws[j]? = some ws[j] := List.getElem?_eq_getElem hj2
        obtain ⟨u, hu1, ru⟩ := r1.get hv
        obtain ⟨x, hx1, rx⟩ := r2.get hw
        obtain ⟨b, k1, k2⟩ := eqP_con (A := A.in1) I (by show A.units + 1 + 14 < cLine; omega) (e2.2 j _ _ hB hv) (f2.2 j _ _ hC hw) ru rx
        refine ⟨b, fun h1 h2 => ?_, fun ef => k2 (by subst ef; rfl)⟩
        have g1 : us.toArray[j] = u := by
          have := (List.getElem?_eq_some_iff.mp hu1).2
          simpa using this
        have g2 : xs.toArray[j] = x := by
          have := (List.getElem?_eq_some_iff.mp hx1).2
          simpa using this
        rw [g1, g2]; exact k1
      · exact ⟨true, fun h1 _ => absurd (by simpa using h1) hj, fun _ => rfl⟩
    refine ⟨_, SeqAt.eqP_refs e (SeqAt.rcP_lists (e := fun j => Classical.choose (one j)) p1.isList p2.isList (by simp; omega) (by omega) fun j h1 h2 => (Classical.choose_spec (one j)).1 h1 h2), fun ef => ?_⟩
    exact List.all_eq_true.mpr fun j _ => (Classical.choose_spec (one j)).2 ef
/-- a state that is among the states, asked by not in -/
def rNotInS : R2 := fun x y H Q => ∃ (sl p : Addr) (svs : List Addr) (A : AS) (sts : List AS), x = .ref sl ∧ y = .ref p ∧ H p = some (.lst (svs.map V.ref)) ∧ StaR H A sl ∧ All2 (StaR H) sts svs ∧ A ∈ sts ∧ Q (.bl false) H
theorem op_notInS (hu : X.A.units + 64 < cLine) : OpR X (compareOp .NotIn) rNotInS := by
  intro pins s σ H x y v u Q I rx ry h
  obtain ⟨sl, p, svs, A, sts, rfl, rfl, hp, hs, hss, hm, q⟩ := h
  cases rx
  cases ry
  obtain ⟨us, r1, p1, _⟩ := I.list (SqL.of hp)
  have l1 := r1.length
  rw [List.length_map] at l1
  have one : ∀ j, ∃ b, (∀ h1 : j < us.toArray.size, SeqAt.EqP X.prog X.w X.A.in1 s us.toArray[j] (.ref sl) b) ∧ (sts[j]? = some A → b = true) := fun j => by
    by_cases hj : j < us.length
    · have hj1 : j < svs.length := by omega
      have hv : svs[j]? = some svs[j] := List.getElem?_eq_getElem hj1
      have hvr : (svs.map V.ref)[j]? = some (.ref svs[j]) := by rw [List.getElem?_map, hv]; rfl
      have hB : sts[j]? = some (sts[j]'(by rw [hss.1]; exact hj1)) := List.getElem?_eq_getElem _
      obtain ⟨u, hu1, ru⟩ := r1.get hvr
      cases ru
      obtain ⟨b, k1, k2⟩ := eqP_sta (A := X.A.in1) I (by show X.A.units + 1 + 16 < cLine; omega) (hss.2 j _ _ hB hv) hs
      refine ⟨b, fun h1 => ?_, fun ef => k2 (by rw [hB] at ef; exact Option.some.inj ef)⟩
      have g1 : us.toArray[j] = .ref svs[j] := by
        have := (List.getElem?_eq_some_iff.mp hu1).2
        simpa using this
      rw [g1]; exact k1
    · exact ⟨true, fun h1 => absurd (by simpa using h1) hj, fun _ => rfl⟩
  refine notIn_listP (fun j => Classical.choose (one j)) p1.isList (fun j h1 => (Classical.choose_spec (one j)).1 h1) ⟨.bl false, H, I, ?_, q⟩
  obtain ⟨j, hj⟩ := List.mem_iff_getElem?.mp hm
  have hjl : j < us.toArray.size := by
    have := (List.getElem?_eq_some_iff.mp hj).1
    rw [hss.1] at this
    simp
    omega
  have : ((List.range us.toArray.size).any fun j => Classical.choose (one j)) = true := List.any_eq_true.mpr ⟨j, List.mem_range.mpr hjl, (Classical.choose_spec (one j)).2 hj⟩
  rw [this]
  rfl
end

end K30

namespace K30
open PySem PySem.Spec PyProof.Rows L2
/-! ## W48: the law -/
open K30X
section
variable {P : Program} {w : World} {K : PySem.W.Frag} {mg : Str → Option Value} {base : Heap}
def sp_law (K : PySem.W.Frag) : Sp := fun vs H Q _ => ∃ (z : Addr) (xs : List Int), vs = [.ref z] ∧ xs.length ≤ 63 ∧ SqL K H z (xs.map V.int) ∧ ∀ H', Q (.bl true) H'
theorem sc_law : FnScope ["_law_script", "_law_layout_here", "_law_log", "_law_state", "_law_epoch_here", "_law_states", "_law_fates"] ["_law_script"] (defScope s_law) := ⟨rfl, rfl, rfl, by decide +kernel, rfl, by decide +kernel, by decide +kernel⟩
theorem ok_law (T : Txt K mg) {f : Addr} {fd : FuncData} (F : FunD K "law" "law" (defArgs s_law) (defBody s_law) (defScope s_law) [] [] f fd) (c__law_row : C8.Cal P w K mg base 1 "_law_row" (sp__law_row K) []) (c__law_layout : C8.Cal P w K mg base 4 "_law_layout" (sp__law_layout K) []) (c_D1 : C8.Mak P w K mg base 1 "Device" (CD K) (sp_Device___init__ K) [.non]) (c_new_log : C8.Cal P w K mg base 5 "new_log" (sp_new_log K) []) (c__law_epoch : C8.Cal P w K mg base 9 "_law_epoch" (sp__law_epoch K) []) (c__law_failure : C8.Cal P w K mg base 2 "_law_failure" (sp__law_failure K) []) (c_Device_pending : C8.Met P w K mg base 1 (CD K) "pending" (sp_Device_pending K) []) (c_left : MetK P w K mg base 3 (CD K) "left" (sp_Device_left K) 2 ["torn"]) (c_mount_log : C8.Cal P w K mg base 6 "mount_log" (sp_mount_log K) []) (c__law_contents : C8.Cal P w K mg base 2 "_law_contents" (sp__law_contents K) []) (c__law_points : C8.Cal P w K mg base 2 "_law_points" (sp__law_points K) []) : FnOk P w K mg base C8.CX0 10 f fd ["_law_script"] (sp_law K) := by
  refine F.ok sc_law (fun vs H Q E h => ?_) (fun cdv A outer s H vs Q E hr h => ?_)
  · obtain ⟨_, _, rfl, _⟩ := h
    rfl
  · obtain ⟨z, xs, rfl, xl, hz, k⟩ := h
    refine ⟨_, PSs.nox (pss_cons (ps_set (i := 1) sc_law.nd rfl (Or.inl rfl) (C8.pe_c c__law_layout hr (by decide) (by rfl) (pa_cons (C8.pe_c c__law_row hr (by decide) (by rfl) (pa_cons (pv 0) (pa_cons pe_int pa_nil))) pa_nil)))
      (pss_cons (ps_set (i := 2) sc_law.nd rfl (Or.inl rfl) (C8.pe_c c_new_log hr (by decide) (by rfl) (pa_cons (C8.pe_mk c_D1 hr (by decide) (by rfl) (pa_cons (pv 1) pa_nil)) pa_nil)))
      (pss_cons (ps_set (i := 3) sc_law.nd rfl (Or.inl rfl) (pe_lst (pa_cons pe_dnewK (pa_cons pe_non (pa_cons pe_non (pa_cons pe_non pa_nil))))))
      (pss_cons (ps_for PassesOwn.never rfl (pi_range1 rfl T.b_range (pa_cons pe_int pa_nil)) (pg_name (i := 4) sc_law.nd rfl (Or.inl rfl)) (pss_cons (ps_set (i := 5) sc_law.nd rfl (Or.inl rfl) (C8.pe_c c__law_epoch hr (by decide) (by rfl) (pa_cons (pv 1) (pa_cons (pv 2) (pa_cons (pv 3) (pa_cons (pv 0) (pa_cons (pe_op op_add pe_int (pe_op op_mul pe_int (pv 4))) pa_nil)))))))
      (pss_cons (ps_set (i := 6) sc_law.nd rfl (Or.inl rfl) (C8.pe_c c__law_failure hr (by decide) (by rfl) (pa_cons (pv 0) (pa_cons (pe_op op_add pe_int (pe_op op_mul pe_int (pv 4))) (pa_cons (C8.pe_mt0 c_Device_pending hr (by decide) (pe_fld (pv 2) rfl)) pa_nil)))))
      (pss_cons (ps_set (i := 2) sc_law.nd rfl (Or.inl rfl) (C8.pe_c c_mount_log hr (by decide) (by rfl) (pa_cons (pe_mtK c_left hr (by decide) (pe_fld (pv 2) rfl) (pa_cons (pe_ix ix_list (pv 6) pe_int (fun _ _ => rfl)) pa_nil) (pk_cons (pe_ix ix_list (pv 6) pe_int (fun _ _ => rfl)) pk_nil)) pa_nil)))
      (pss_cons (ps_set (i := 3) sc_law.nd rfl (Or.inl rfl) (C8.pe_c c__law_contents hr (by decide) (by rfl) (pa_cons (pv 2) pa_nil)))
      (pss_one (ps_if (PW.pt (pw_or (pt_cmpR (op_notInS (hu64 hr)) (pv 3) (pv 5) (by rfl)) (pw_or1 (pt_not (pt_val (C8.pe_c c__law_points hr (by decide) (by rfl) (pa_cons (pv 1) (pa_cons (pv 2) pa_nil)))))))) (pss_one (ps_ret pe_bl)) pss_nil)))))))
      (pss_one (ps_ret pe_bl)))))), ?_⟩
    refine ⟨_, rfl, z, xs, 0, rfl, hz, xl, fun r => ⟨r, rfl, fun H1 lay L O s1 hlay y => ?_⟩⟩
    refine ⟨_, rfl, fun x dx hx hdx hne => ?_⟩
    have sm : Same H1 (upd (upd H1 dx (.own x)) x (.ins (CD K) dx [])) := sM (sN (sR H1) hdx) hx
    refine ⟨x, dx, lay, .non, L, List.replicate L.db none, rfl, upd_same, y.same sm, O, List.length_replicate, .inl ⟨rfl, rfl⟩, fun H2 su se wa vsu vse dn => ⟨rfl, ?_⟩⟩
    have d2 : DevO K H1 H2 x lay (Dev.new (List.replicate L.db none)) := dn.dev sm hx
    refine ⟨x, lay, H1, L, _, rfl, d2, y, O, List.length_replicate, List.length_replicate, fun w hw => (by cases hw), fun H3 lg fr nf h3 => ?_⟩
    have si0 := new_ok O nf
    have w0 : Wb (checkpoint L fr ⟨Dev.new (List.replicate L.db none), newLS L, 0, 1⟩) 0 := wb_ck
    have m0 : Wm (checkpoint L fr ⟨Dev.new (List.replicate L.db none), newLS L, 0, 1⟩) := wm_ck O (n := 0) (by show 0 ≤ 5000; omega) (fun _ => Nat.le_refl _) (by omega)
    intro d hd
    refine ⟨by show 4 ≤ sizeLine; decide, fun ps hps => ?_⟩
    have s34 : Same H3 (upd (upd H3 d (.dK [])) ps (.lst [.ref d, .non, .non, .non])) := sN (sN (sR H3) hd) hps
    have npd : d ≠ ps := fun e => by rw [← e, upd_same] at hps; cases hps
    have h4 := h3.ext s34
    have f4 := ext_same (H' := upd (upd H3 d (.dK [])) ps (.lst [.ref d, .non, .non, .non])) h3.frame
    have hd4 : ext H1 H3 (upd (upd H3 d (.dK [])) ps (.lst [.ref d, .non, .non, .non])) d = some (.dK []) := (ext_new hd).trans (by rw [upd_ne npd]; exact upd_same)
    have hps3 : H3 ps = Option.none := by rw [upd_ne (Ne.symm npd)] at hps; exact hps
    have sta0 : StaR (ext H1 H3 (upd (upd H3 d (.dK [])) ps (.lst [.ref d, .non, .non, .non]))) [some (fun _ => none), none, none, none] ps :=
      ⟨_, (ext_new hps3).trans upd_same, All2.cons ⟨d, [], rfl, DicR.nil hd4⟩ (All2.cons rfl (All2.cons rfl (All2.cons rfl .nil))), rfl, _, rfl⟩
    have sc0 : SqL K (ext H1 H3 (upd (upd H3 d (.dK [])) ps (.lst [.ref d, .non, .non, .non]))) z (xs.map V.int) := SqL.same (SqL.same hz s1) f4
    refine ⟨_, rfl, by omega, by omega, for_it walk_range (fun i σ H' => ∃ (v4 v5 v6 : Option V) (HB : Hp) (st : St) (A : AS) (lg dv sl : Addr), σ = [some (.ref z), some (.ref lay), some (.ref lg), some (.ref sl), v4, v5, v6] ∧ LogO K HB H' lg dv lay L st ∧ SI L st A (fun A' => A' = A) ∧ Wb st 0 ∧ Wm st ∧ StaR HB A sl ∧ SqL K HB z (xs.map V.int))
      ⟨none, none, none, _, _, _, lg, x, ps, rfl, h4, si0, w0, m0, sta0, sc0⟩ (fun _ _ _ _ _ => trivial) ?_ ?_⟩
    · rintro i v σ G0 G1 hlt ⟨v4, v5, v6, HB, st, A, lg, dv, sl, rfl, h5, si, wb, wm, sta, sc⟩ ⟨rfl, rfl⟩
      have ei : (fun (j : Nat) => V.int (0 + (j : Int))) i = V.int (i : Int) := by
        show V.int (0 + (i : Int)) = _
        rw [Int.zero_add]
      rw [ei]
      have hi : i < 3 := by omega
      refine ⟨_, rfl, _, rfl, _, rfl, _, rfl, _, rfl, _, _, rfl, rfl, .inl ⟨by omega, by omega⟩, _, _, rfl, rfl, lg, dv, lay, sl, z, HB, L, st, A, xs, 1 + 20 * i, ?_, h5, O, si, wb, wm, sta, sc, xl, fun H6 p st6 A6 sts svs h6 si6 wm6 hp6 hss6 => ?_⟩
      · show [V.ref lay, V.ref lg, V.ref sl, V.ref z, V.int (1 + 20 * (i : Int))] = [V.ref lay, V.ref lg, V.ref sl, V.ref z, V.int ((1 + 20 * i : Nat) : Int)]
        rw [show (1 : Int) + 20 * (i : Int) = ((1 + 20 * i : Nat) : Int) by omega]
      obtain ⟨F6, q6, w6, y6⟩ := h6.opn
      obtain ⟨pd6, hpd6⟩ := w6.hd
      have sc6 : SqL K H6 z (xs.map V.int) := SqL.same sc h6.frame
      have lay6 : LayAt K H6 lay L := h6.layA
      refine ⟨_, rfl, _, rfl, _, _, rfl, rfl, .inl ⟨by omega, by omega⟩, _, _, rfl, rfl, _, rfl, lg, _, q6.dx, _, _, rfl, w6.h0, T.cG, T.nG_device, rfl, dv, _, _, rfl, hpd6, rfl, dv, lay, F6, st6.dev, rfl, w6.d, z, xs, 300 + 10 * i, st6.dev.waiting.length, ?_, sc6, xl, Nat.le_trans wm6 (by omega), fun H7 pf pk pt kept torn s7 hpf hpk hpt => ?_⟩
      · show [V.ref z, V.int (300 + 10 * (i : Int)), V.int ((st6.dev.waiting.length : Nat) : Int)] = [V.ref z, V.int ((300 + 10 * i : Nat) : Int), V.int ((st6.dev.waiting.length : Nat) : Int)]
        rw [show (300 : Int) + 10 * (i : Int) = ((300 + 10 * i : Nat) : Int) by omega]
      have w7 := w6.new s7
      have lay7 : LayAt K H7 lay L := lay6.same s7
      obtain ⟨r, s0, n, hh, R, hS, hM⟩ := mount_ok O si6 kept torn
      obtain ⟨l1, l2⟩ := left_sok si6.ok kept torn
      refine ⟨_, rfl, lg, _, q6.dx, _, _, rfl, w7.h0, T.cG, T.nG_device, rfl, dv, _, _, rfl, s7 _ _ hpd6, rfl, _, rfl, pf, _, _, _, rfl, rfl, SqL.of hpf, atI_nat (j := 0) rfl, _, rfl, pf, _, _, _, rfl, rfl, SqL.of hpf, atI_nat (j := 1) rfl, rfl, rfl, dv, lay, pk, pt, _, L, st6.dev, kept, torn, rfl, w7.d, (y6.same w6.l.s).same (ext_same w6.fr), O, hpk, hpt, si6.ok.lu, si6.ok.lw, fun H8 x8 d8 => ?_⟩
      refine ⟨x8, lay, H7, L, Dev.new (st6.dev.left kept torn), r, s0, n, hh, rfl, d8, lay7, O, l2, R, l1, l1, fun w hw => (by cases hw), fun H9 lg9 sq fr9 hsq nf9 h9 => ?_⟩
      have si9 := hM sq fr9 hsq nf9
      have wb9 : Wb (checkpoint L fr9 ⟨Dev.new (st6.dev.left kept torn), hh n, sq, r⟩) 0 := wb_ck
      have wm9 : Wm (checkpoint L fr9 ⟨Dev.new (st6.dev.left kept torn), hh n, sq, r⟩) := wm_ck O (n := 0) (by show 0 ≤ 5000; omega) (fun _ => Nat.le_refl _) (by omega)
      refine ⟨_, rfl, lg9, x8, lay, H7, L, _, rfl, h9, O, si9.ok.ok, si9.ok.ws, fun H10 p10 s10 hp10 r10 => ?_⟩
      rw [si9.ok.ct] at r10
      have s67 : Same H6 H10 := sT s7 (sT h9.frame s10)
      refine ⟨_, rfl, _, rfl, p10, p, svs, _, sts, rfl, rfl, s67 _ _ hp6, r10, hss6.mono fun _ _ q => q.same s67, hS, _, rfl, ?_⟩
      refine iteF ?_
      have h10 := h9.same s10
      refine ⟨_, rfl, _, rfl, lg9, x8, lay, H7, L, _, _, rfl, h10, O, si9.ok.ok, fun H11 s11 => ⟨_, rfl, ?_⟩⟩
      refine iteF ?_
      obtain ⟨HM, lm, sm', ap⟩ := h10.max
      exact ⟨_, _, _, HM, _, _, lg9, x8, p10, rfl, lm.same s11, si9, wb9, wm9, r10.max ap, SqL.same (SqL.same sc6 s7) sm'⟩
    · rintro σ G0 ⟨v4, v5, v6, HB, st, A, lg, dv, sl, rfl, h5, si, wb, wm, sta, sc⟩
      exact k _
end

end K30

namespace K30
open PySem PySem.Spec PyProof.Rows L2 K30X
theorem txt {K : PySem.W.Frag} {h : Heap} {mg : Str → Option Value} (X : K.In h) (G : h.Ns mainGlobals mg) (c : He.SaysD fa fn K) : Txt K mg where
  cL := He.cls_ok (c.fact 56 (f := .cls "Layout") rfl)
  mL := He.glo_ok X G (c.fact 55 (f := .glo "Layout") rfl)
  nL_segments := He.noat_ok (c.fact 58 (f := .noat "Layout" "segments") rfl)
  nL_segment_blocks := He.noat_ok (c.fact 59 (f := .noat "Layout" "segment_blocks") rfl)
  nL_block_size := He.noat_ok (c.fact 60 (f := .noat "Layout" "block_size") rfl)
  nL_payload := He.noat_ok (c.fact 61 (f := .noat "Layout" "payload") rfl)
  nL_limit := He.noat_ok (c.fact 62 (f := .noat "Layout" "limit") rfl)
  nL_last_id := He.noat_ok (c.fact 63 (f := .noat "Layout" "last_id") rfl)
  nL_fan := He.noat_ok (c.fact 64 (f := .noat "Layout" "fan") rfl)
  nL_region_blocks := He.noat_ok (c.fact 65 (f := .noat "Layout" "region_blocks") rfl)
  nL_device_blocks := He.noat_ok (c.fact 66 (f := .noat "Layout" "device_blocks") rfl)
  cC := He.cls_ok (c.fact 69 (f := .cls "Counts") rfl)
  mC := He.glo_ok X G (c.fact 68 (f := .glo "Counts") rfl)
  nC_commits := He.noat_ok (c.fact 71 (f := .noat "Counts" "commits") rfl)
  nC_commit_blocks := He.noat_ok (c.fact 72 (f := .noat "Counts" "commit_blocks") rfl)
  nC_moves := He.noat_ok (c.fact 73 (f := .noat "Counts" "moves") rfl)
  nC_move_blocks := He.noat_ok (c.fact 74 (f := .noat "Counts" "move_blocks") rfl)
  nC_checkpoints := He.noat_ok (c.fact 75 (f := .noat "Counts" "checkpoints") rfl)
  nC_checkpoint_blocks := He.noat_ok (c.fact 76 (f := .noat "Counts" "checkpoint_blocks") rfl)
  nC_barriers := He.noat_ok (c.fact 77 (f := .noat "Counts" "barriers") rfl)
  cG := He.cls_ok (c.fact 80 (f := .cls "Log") rfl)
  mG := He.glo_ok X G (c.fact 79 (f := .glo "Log") rfl)
  nG_device := He.noat_ok (c.fact 82 (f := .noat "Log" "device") rfl)
  nG_layout := He.noat_ok (c.fact 83 (f := .noat "Log" "layout") rfl)
  nG_present := He.noat_ok (c.fact 84 (f := .noat "Log" "present") rfl)
  nG_slots := He.noat_ok (c.fact 85 (f := .noat "Log" "slots") rfl)
  nG_head := He.noat_ok (c.fact 86 (f := .noat "Log" "head") rfl)
  nG_place := He.noat_ok (c.fact 87 (f := .noat "Log" "place") rfl)
  nG_queue := He.noat_ok (c.fact 88 (f := .noat "Log" "queue") rfl)
  nG_last_sequence := He.noat_ok (c.fact 89 (f := .noat "Log" "last_sequence") rfl)
  nG_region := He.noat_ok (c.fact 90 (f := .noat "Log" "region") rfl)
  nG_counts := He.noat_ok (c.fact 91 (f := .noat "Log" "counts") rfl)
  cD := He.cls_ok (c.fact 94 (f := .cls "Device") rfl)
  mD := He.glo_ok X G (c.fact 93 (f := .glo "Device") rfl)
  nD_layout := He.noat_ok (c.fact 96 (f := .noat "Device" "layout") rfl)
  nD_sure := He.noat_ok (c.fact 97 (f := .noat "Device" "sure") rfl)
  nD_seen := He.noat_ok (c.fact 98 (f := .noat "Device" "seen") rfl)
  nD_waiting := He.noat_ok (c.fact 99 (f := .noat "Device" "waiting") rfl)
  nD_fuse := He.noat_ok (c.fact 100 (f := .noat "Device" "fuse") rfl)
  nD_dark := He.noat_ok (c.fact 101 (f := .noat "Device" "dark") rfl)
  b_enumerate := He.free_ok X G (c.fact 123 (f := .free "enumerate") rfl)
  b_int := He.free_ok X G (c.fact 124 (f := .free "int") rfl)
  b_len := He.free_ok X G (c.fact 125 (f := .free "len") rfl)
  b_list := He.free_ok X G (c.fact 126 (f := .free "list") rfl)
  b_max := He.free_ok X G (c.fact 127 (f := .free "max") rfl)
  b_range := He.free_ok X G (c.fact 128 (f := .free "range") rfl)
  b_sorted := He.free_ok X G (c.fact 129 (f := .free "sorted") rfl)
  b_tuple := He.free_ok X G (c.fact 130 (f := .free "tuple") rfl)
  b_zip := He.free_ok X G (c.fact 131 (f := .free "zip") rfl)
  i_COMMIT := He.int_ok X G (c.fact 112 (f := .int "COMMIT" 1) rfl)
  i_MOVE := He.int_ok X G (c.fact 113 (f := .int "MOVE" 2) rfl)
  i_DATA := He.int_ok X G (c.fact 114 (f := .int "DATA" 3) rfl)
  i_NODE := He.int_ok X G (c.fact 115 (f := .int "NODE" 4) rfl)
  i_PART := He.int_ok X G (c.fact 116 (f := .int "PART" 5) rfl)
  i_LEAST_SEGMENTS := He.int_ok X G (c.fact 117 (f := .int "LEAST_SEGMENTS" 4) rfl)
  i_MOST_SEGMENTS := He.int_ok X G (c.fact 118 (f := .int "MOST_SEGMENTS" 16) rfl)
  i_LEAST_BLOCKS := He.int_ok X G (c.fact 119 (f := .int "LEAST_BLOCKS" 16) rfl)
  i_MOST_BLOCKS := He.int_ok X G (c.fact 120 (f := .int "MOST_BLOCKS" 32) rfl)
  i_HEAD_OCTETS := He.int_ok X G (c.fact 121 (f := .int "HEAD_OCTETS" 16) rfl)
  i_SLOTS := He.int_ok X G (c.fact 122 (f := .int "SLOTS" 3) rfl)
theorem facts {P : Program} {w : World} {K : PySem.W.Frag} {h : Heap} {mg : Str → Option Value} {f : Addr} (X : K.In h) (G : h.Ns mainGlobals mg) (hfa : mg ("law" : Str) = some (.ref f)) (c : He.SaysD fa fn K) :
    ∃ fd : FuncData, (∀ (s : Shared) (v : Value), BindsTo s fd ⟨[v], []⟩ [("_law_script", v)]) ∧ ∀ base : Heap, K.In base → base.Ns mainGlobals mg → FnOk P w K mg base C8.CX0 10 f fd ["_law_script"] (sp_law K) := by
  have T : Txt K mg := txt X G c
  have F_wb : MD K (CD K) "written_blocks" "Device.written_blocks" s_Device_written_blocks := by
    obtain ⟨fd, F⟩ := c.def_ 41 (d := d_Device_written_blocks) rfl
    exact ⟨_, fd, F, He.meth_ok (c.fact 110 (f := .meth "Device" "written_blocks") rfl)⟩
  have F_c_parts_of : FD K mg "parts_of" s_parts_of := by
    obtain ⟨fd, F⟩ := c.def_ 4 (d := d_parts_of) rfl
    exact ⟨_, fd, F, He.glo_ok X G (c.fact 3 (f := .glo "parts_of") rfl)⟩
  have F_c_address_at : FD K mg "address_at" s_address_at := by
    obtain ⟨fd, F⟩ := c.def_ 5 (d := d_address_at) rfl
    exact ⟨_, fd, F, He.glo_ok X G (c.fact 4 (f := .glo "address_at") rfl)⟩
  have F_c_segment_of : FD K mg "segment_of" s_segment_of := by
    obtain ⟨fd, F⟩ := c.def_ 6 (d := d_segment_of) rfl
    exact ⟨_, fd, F, He.glo_ok X G (c.fact 5 (f := .glo "segment_of") rfl)⟩
  have F_c_region_start : FD K mg "region_start" s_region_start := by
    obtain ⟨fd, F⟩ := c.def_ 7 (d := d_region_start) rfl
    exact ⟨_, fd, F, He.glo_ok X G (c.fact 6 (f := .glo "region_start") rfl)⟩
  have F_c_empty_table : FD K mg "empty_table" s_empty_table := by
    obtain ⟨fd, F⟩ := c.def_ 9 (d := d_empty_table) rfl
    exact ⟨_, fd, F, He.glo_ok X G (c.fact 7 (f := .glo "empty_table") rfl)⟩
  have F_c_is_payload : FD K mg "is_payload" s_is_payload := by
    obtain ⟨fd, F⟩ := c.def_ 0 (d := d_is_payload) rfl
    exact ⟨_, fd, F, He.glo_ok X G (c.fact 0 (f := .glo "is_payload") rfl)⟩
  have F_c_payload_of : FD K mg "payload_of" s_payload_of := by
    obtain ⟨fd, F⟩ := c.def_ 1 (d := d_payload_of) rfl
    exact ⟨_, fd, F, He.glo_ok X G (c.fact 1 (f := .glo "payload_of") rfl)⟩
  have F_c_stamped : FD K mg "stamped" s_stamped := by
    obtain ⟨fd, F⟩ := c.def_ 2 (d := d_stamped) rfl
    exact ⟨_, fd, F, He.glo_ok X G (c.fact 2 (f := .glo "stamped") rfl)⟩
  have F_c_commit_to_table : FD K mg "commit_to_table" s_commit_to_table := by
    obtain ⟨fd, F⟩ := c.def_ 10 (d := d_commit_to_table) rfl
    exact ⟨_, fd, F, He.glo_ok X G (c.fact 8 (f := .glo "commit_to_table") rfl)⟩
  have F_c_slots_after : FD K mg "slots_after" s_slots_after := by
    obtain ⟨fd, F⟩ := c.def_ 11 (d := d_slots_after) rfl
    exact ⟨_, fd, F, He.glo_ok X G (c.fact 9 (f := .glo "slots_after") rfl)⟩
  have F_c_move_in_table : FD K mg "move_in_table" s_move_in_table := by
    obtain ⟨fd, F⟩ := c.def_ 12 (d := d_move_in_table) rfl
    exact ⟨_, fd, F, He.glo_ok X G (c.fact 10 (f := .glo "move_in_table") rfl)⟩
  have F_c_Counts : KD K mg "Counts" (CC K) "Counts.__init__" s_Counts___init__ := by
    obtain ⟨fd, F⟩ := c.def_ 8 (d := d_Counts___init__) rfl
    exact ⟨_, fd, F, He.mkr_ok (c.fact 70 (f := .mkr "Counts") rfl), He.glo_ok X G (c.fact 68 (f := .glo "Counts") rfl)⟩
  have F_c_Layout : KD K mg "Layout" (CL K) "Layout.__init__" s_Layout___init__ := by
    obtain ⟨fd, F⟩ := c.def_ 3 (d := d_Layout___init__) rfl
    exact ⟨_, fd, F, He.mkr_ok (c.fact 57 (f := .mkr "Layout") rfl), He.glo_ok X G (c.fact 55 (f := .glo "Layout") rfl)⟩
  have F_c_D1 : KD1 K mg "Device" (CD K) "Device.__init__" s_Device___init__ [.non] := by
    obtain ⟨fd, F⟩ := c.def_ 33 (d := d_Device___init__) rfl
    exact ⟨_, fd, F, He.mkr_ok (c.fact 95 (f := .mkr "Device") rfl), He.glo_ok X G (c.fact 93 (f := .glo "Device") rfl)⟩
  have F_c_Device__count_command : MD K (CD K) "_count_command" "Device._count_command" s_Device__count_command := by
    obtain ⟨fd, F⟩ := c.def_ 42 (d := d_Device__count_command) rfl
    exact ⟨_, fd, F, He.meth_ok (c.fact 111 (f := .meth "Device" "_count_command") rfl)⟩
  have F_c_Device_was_cut : MD K (CD K) "was_cut" "Device.was_cut" s_Device_was_cut := by
    obtain ⟨fd, F⟩ := c.def_ 38 (d := d_Device_was_cut) rfl
    exact ⟨_, fd, F, He.meth_ok (c.fact 107 (f := .meth "Device" "was_cut") rfl)⟩
  have F_c_Device_pending : MD K (CD K) "pending" "Device.pending" s_Device_pending := by
    obtain ⟨fd, F⟩ := c.def_ 39 (d := d_Device_pending) rfl
    exact ⟨_, fd, F, He.meth_ok (c.fact 108 (f := .meth "Device" "pending") rfl)⟩
  have F_c_Device_cut_after : MD K (CD K) "cut_after" "Device.cut_after" s_Device_cut_after := by
    obtain ⟨fd, F⟩ := c.def_ 37 (d := d_Device_cut_after) rfl
    exact ⟨_, fd, F, He.meth_ok (c.fact 106 (f := .meth "Device" "cut_after") rfl)⟩
  have F_c_Device_read : MD K (CD K) "read" "Device.read" s_Device_read := by
    obtain ⟨fd, F⟩ := c.def_ 34 (d := d_Device_read) rfl
    exact ⟨_, fd, F, He.meth_ok (c.fact 103 (f := .meth "Device" "read") rfl)⟩
  have F_c_Device_write : MD K (CD K) "write" "Device.write" s_Device_write := by
    obtain ⟨fd, F⟩ := c.def_ 35 (d := d_Device_write) rfl
    exact ⟨_, fd, F, He.meth_ok (c.fact 104 (f := .meth "Device" "write") rfl)⟩
  have F_c_Device_barrier : MD K (CD K) "barrier" "Device.barrier" s_Device_barrier := by
    obtain ⟨fd, F⟩ := c.def_ 36 (d := d_Device_barrier) rfl
    exact ⟨_, fd, F, He.meth_ok (c.fact 105 (f := .meth "Device" "barrier") rfl)⟩
  have F_c_payload_at : FD K mg "payload_at" s_payload_at := by
    obtain ⟨fd, F⟩ := c.def_ 14 (d := d_payload_at) rfl
    exact ⟨_, fd, F, He.glo_ok X G (c.fact 11 (f := .glo "payload_at") rfl)⟩
  have F_c_next_sequence : FD K mg "next_sequence" s_next_sequence := by
    obtain ⟨fd, F⟩ := c.def_ 16 (d := d_next_sequence) rfl
    exact ⟨_, fd, F, He.glo_ok X G (c.fact 13 (f := .glo "next_sequence") rfl)⟩
  have F_c_enter_segment : FD K mg "enter_segment" s_enter_segment := by
    obtain ⟨fd, F⟩ := c.def_ 17 (d := d_enter_segment) rfl
    exact ⟨_, fd, F, He.glo_ok X G (c.fact 14 (f := .glo "enter_segment") rfl)⟩
  have F_c_sync_log : FD K mg "sync_log" s_sync_log := by
    obtain ⟨fd, F⟩ := c.def_ 22 (d := d_sync_log) rfl
    exact ⟨_, fd, F, He.glo_ok X G (c.fact 19 (f := .glo "sync_log") rfl)⟩
  have F_c_live_addresses : FD K mg "live_addresses" s_live_addresses := by
    obtain ⟨fd, F⟩ := c.def_ 15 (d := d_live_addresses) rfl
    exact ⟨_, fd, F, He.glo_ok X G (c.fact 12 (f := .glo "live_addresses") rfl)⟩
  have F_c_take_batch : FD K mg "take_batch" s_take_batch := by
    obtain ⟨fd, F⟩ := c.def_ 18 (d := d_take_batch) rfl
    exact ⟨_, fd, F, He.glo_ok X G (c.fact 15 (f := .glo "take_batch") rfl)⟩
  have F_c_write_batch : FD K mg "write_batch" s_write_batch := by
    obtain ⟨fd, F⟩ := c.def_ 19 (d := d_write_batch) rfl
    exact ⟨_, fd, F, He.glo_ok X G (c.fact 16 (f := .glo "write_batch") rfl)⟩
  have F_c_append_commit : FD K mg "append_commit" s_append_commit := by
    obtain ⟨fd, F⟩ := c.def_ 20 (d := d_append_commit) rfl
    exact ⟨_, fd, F, He.glo_ok X G (c.fact 17 (f := .glo "append_commit") rfl)⟩
  have F_c_append_move : FD K mg "append_move" s_append_move := by
    obtain ⟨fd, F⟩ := c.def_ 21 (d := d_append_move) rfl
    exact ⟨_, fd, F, He.glo_ok X G (c.fact 18 (f := .glo "append_move") rfl)⟩
  have F_c_checkpoint_numbers : FD K mg "checkpoint_numbers" s_checkpoint_numbers := by
    obtain ⟨fd, F⟩ := c.def_ 23 (d := d_checkpoint_numbers) rfl
    exact ⟨_, fd, F, He.glo_ok X G (c.fact 20 (f := .glo "checkpoint_numbers") rfl)⟩
  have F_c_extended_queue : FD K mg "extended_queue" s_extended_queue := by
    obtain ⟨fd, F⟩ := c.def_ 25 (d := d_extended_queue) rfl
    exact ⟨_, fd, F, He.glo_ok X G (c.fact 22 (f := .glo "extended_queue") rfl)⟩
  have F_c_write_checkpoint : FD K mg "write_checkpoint" s_write_checkpoint := by
    obtain ⟨fd, F⟩ := c.def_ 26 (d := d_write_checkpoint) rfl
    exact ⟨_, fd, F, He.glo_ok X G (c.fact 23 (f := .glo "write_checkpoint") rfl)⟩
  have F_c_Log : KD K mg "Log" (CG K) "Log.__init__" s_Log___init__ := by
    obtain ⟨fd, F⟩ := c.def_ 13 (d := d_Log___init__) rfl
    exact ⟨_, fd, F, He.mkr_ok (c.fact 81 (f := .mkr "Log") rfl), He.glo_ok X G (c.fact 79 (f := .glo "Log") rfl)⟩
  have F_c_new_log : FD K mg "new_log" s_new_log := by
    obtain ⟨fd, F⟩ := c.def_ 27 (d := d_new_log) rfl
    exact ⟨_, fd, F, He.glo_ok X G (c.fact 24 (f := .glo "new_log") rfl)⟩
  have F_c_read_numbers : FD K mg "read_numbers" s_read_numbers := by
    obtain ⟨fd, F⟩ := c.def_ 24 (d := d_read_numbers) rfl
    exact ⟨_, fd, F, He.glo_ok X G (c.fact 21 (f := .glo "read_numbers") rfl)⟩
  have F_c_checkpoint_in : FD K mg "checkpoint_in" s_checkpoint_in := by
    obtain ⟨fd, F⟩ := c.def_ 28 (d := d_checkpoint_in) rfl
    exact ⟨_, fd, F, He.glo_ok X G (c.fact 25 (f := .glo "checkpoint_in") rfl)⟩
  have F_c_batch_at : FD K mg "batch_at" s_batch_at := by
    obtain ⟨fd, F⟩ := c.def_ 29 (d := d_batch_at) rfl
    exact ⟨_, fd, F, He.glo_ok X G (c.fact 26 (f := .glo "batch_at") rfl)⟩
  have F_c_take_next : FD K mg "take_next" s_take_next := by
    obtain ⟨fd, F⟩ := c.def_ 30 (d := d_take_next) rfl
    exact ⟨_, fd, F, He.glo_ok X G (c.fact 27 (f := .glo "take_next") rfl)⟩
  have F_c_recover : FD K mg "recover" s_recover := by
    obtain ⟨fd, F⟩ := c.def_ 31 (d := d_recover) rfl
    exact ⟨_, fd, F, He.glo_ok X G (c.fact 28 (f := .glo "recover") rfl)⟩
  have F_c_mount_log : FD K mg "mount_log" s_mount_log := by
    obtain ⟨fd, F⟩ := c.def_ 32 (d := d_mount_log) rfl
    exact ⟨_, fd, F, He.glo_ok X G (c.fact 29 (f := .glo "mount_log") rfl)⟩
  have F_c_left : ∃ vt : V, MDK K (CD K) "left" "Device.left" s_Device_left [("torn", vt)] := by
    obtain ⟨fd, F⟩ := c.def_ 40 (d := d_Device_left) rfl
    exact ⟨_, _, fd, F, He.meth_ok (c.fact 109 (f := .meth "Device" "left") rfl)⟩
  obtain ⟨vt, F_left⟩ := F_c_left
  have F_c_live_counts : FD K mg "live_counts" s_live_counts := by
    obtain ⟨fd, F⟩ := c.def_ 43 (d := d_live_counts) rfl
    exact ⟨_, fd, F, He.glo_ok X G (c.fact 30 (f := .glo "live_counts") rfl)⟩
  have F_c_ages : FD K mg "ages" s_ages := by
    obtain ⟨fd, F⟩ := c.def_ 44 (d := d_ages) rfl
    exact ⟨_, fd, F, He.glo_ok X G (c.fact 31 (f := .glo "ages") rfl)⟩
  have F_c_has_room : FD K mg "has_room" s_has_room := by
    obtain ⟨fd, F⟩ := c.def_ 51 (d := d_has_room) rfl
    exact ⟨_, fd, F, He.glo_ok X G (c.fact 38 (f := .glo "has_room") rfl)⟩
  have F_c_candidates : FD K mg "candidates" s_candidates := by
    obtain ⟨fd, F⟩ := c.def_ 45 (d := d_candidates) rfl
    exact ⟨_, fd, F, He.glo_ok X G (c.fact 32 (f := .glo "candidates") rfl)⟩
  have F_c_victims : FD K mg "victims" s_victims := by
    obtain ⟨fd, F⟩ := c.def_ 46 (d := d_victims) rfl
    exact ⟨_, fd, F, He.glo_ok X G (c.fact 33 (f := .glo "victims") rfl)⟩
  have F_c_cargo : FD K mg "cargo" s_cargo := by
    obtain ⟨fd, F⟩ := c.def_ 47 (d := d_cargo) rfl
    exact ⟨_, fd, F, He.glo_ok X G (c.fact 34 (f := .glo "cargo") rfl)⟩
  have F_c_fill : FD K mg "fill" s_fill := by
    obtain ⟨fd, F⟩ := c.def_ 48 (d := d_fill) rfl
    exact ⟨_, fd, F, He.glo_ok X G (c.fact 35 (f := .glo "fill") rfl)⟩
  have F_c_is_better : FD K mg "is_better" s_is_better := by
    obtain ⟨fd, F⟩ := c.def_ 49 (d := d_is_better) rfl
    exact ⟨_, fd, F, He.glo_ok X G (c.fact 36 (f := .glo "is_better") rfl)⟩
  have F_c_order_candidates : FD K mg "order_candidates" s_order_candidates := by
    obtain ⟨fd, F⟩ := c.def_ 50 (d := d_order_candidates) rfl
    exact ⟨_, fd, F, He.glo_ok X G (c.fact 37 (f := .glo "order_candidates") rfl)⟩
  have F_c_make_room : FDK K mg "make_room" s_make_room [("policy", .str "greedy")] := by
    obtain ⟨fd, F⟩ := c.def_ 52 (d := d_make_room) rfl
    exact ⟨_, fd, F, He.glo_ok X G (c.fact 39 (f := .glo "make_room") rfl)⟩
  have F_c_clean_log : FDK K mg "clean_log" s_clean_log [("policy", (.str "greedy"))] := by
    obtain ⟨fd, F⟩ := c.def_ 53 (d := d_clean_log) rfl
    exact ⟨_, fd, F, He.glo_ok X G (c.fact 40 (f := .glo "clean_log") rfl)⟩
  have F_c__law_row : FD K mg "_law_row" s__law_row := by
    obtain ⟨fd, F⟩ := c.def_ 54 (d := d__law_row) rfl
    exact ⟨_, fd, F, He.glo_ok X G (c.fact 41 (f := .glo "_law_row") rfl)⟩
  have F_c__law_digits : FD K mg "_law_digits" s__law_digits := by
    obtain ⟨fd, F⟩ := c.def_ 55 (d := d__law_digits) rfl
    exact ⟨_, fd, F, He.glo_ok X G (c.fact 42 (f := .glo "_law_digits") rfl)⟩
  have F_c__law_layout : FD K mg "_law_layout" s__law_layout := by
    obtain ⟨fd, F⟩ := c.def_ 56 (d := d__law_layout) rfl
    exact ⟨_, fd, F, He.glo_ok X G (c.fact 43 (f := .glo "_law_layout") rfl)⟩
  have F_c__law_ids : FD K mg "_law_ids" s__law_ids := by
    obtain ⟨fd, F⟩ := c.def_ 60 (d := d__law_ids) rfl
    exact ⟨_, fd, F, He.glo_ok X G (c.fact 47 (f := .glo "_law_ids") rfl)⟩
  have F_c__law_payloads : FD K mg "_law_payloads" s__law_payloads := by
    obtain ⟨fd, F⟩ := c.def_ 59 (d := d__law_payloads) rfl
    exact ⟨_, fd, F, He.glo_ok X G (c.fact 46 (f := .glo "_law_payloads") rfl)⟩
  have F_c__law_used : FD K mg "_law_used" s__law_used := by
    obtain ⟨fd, F⟩ := c.def_ 61 (d := d__law_used) rfl
    exact ⟨_, fd, F, He.glo_ok X G (c.fact 48 (f := .glo "_law_used") rfl)⟩
  have F_c__law_after : FD K mg "_law_after" s__law_after := by
    obtain ⟨fd, F⟩ := c.def_ 58 (d := d__law_after) rfl
    exact ⟨_, fd, F, He.glo_ok X G (c.fact 45 (f := .glo "_law_after") rfl)⟩
  have F_c__law_contents : FD K mg "_law_contents" s__law_contents := by
    obtain ⟨fd, F⟩ := c.def_ 57 (d := d__law_contents) rfl
    exact ⟨_, fd, F, He.glo_ok X G (c.fact 44 (f := .glo "_law_contents") rfl)⟩
  have F_c__law_live : FD K mg "_law_live" s__law_live := by
    obtain ⟨fd, F⟩ := c.def_ 62 (d := d__law_live) rfl
    exact ⟨_, fd, F, He.glo_ok X G (c.fact 49 (f := .glo "_law_live") rfl)⟩
  have F_c__law_points : FD K mg "_law_points" s__law_points := by
    obtain ⟨fd, F⟩ := c.def_ 64 (d := d__law_points) rfl
    exact ⟨_, fd, F, He.glo_ok X G (c.fact 51 (f := .glo "_law_points") rfl)⟩
  have F_c__law_failure : FD K mg "_law_failure" s__law_failure := by
    obtain ⟨fd, F⟩ := c.def_ 63 (d := d__law_failure) rfl
    exact ⟨_, fd, F, He.glo_ok X G (c.fact 50 (f := .glo "_law_failure") rfl)⟩
  have F_c__law_quiet : FD K mg "_law_quiet" s__law_quiet := by
    obtain ⟨fd, F⟩ := c.def_ 65 (d := d__law_quiet) rfl
    exact ⟨_, fd, F, He.glo_ok X G (c.fact 52 (f := .glo "_law_quiet") rfl)⟩
  have F_c__law_epoch : FD K mg "_law_epoch" s__law_epoch := by
    obtain ⟨fd, F⟩ := c.def_ 66 (d := d__law_epoch) rfl
    exact ⟨_, fd, F, He.glo_ok X G (c.fact 53 (f := .glo "_law_epoch") rfl)⟩
  obtain ⟨fd, FL⟩ := c.def_ 67 (d := d_law) rfl
  have e := hfa.symm.trans (He.glo_ok X G (c.fact 54 (f := .glo "law") rfl))
  cases e
  have b := FunD.bindsA (ps := ["_law_script"]) FL fun _ _ _ _ _ _ us hl => match us, hl with | [_], _ => rfl
  refine ⟨fd, fun s v => b s [v] rfl, fun base _ _ => ?_⟩
  have c_parts_of := cal_parts_of (P := P) (w := w) (base := base) T F_c_parts_of
  have c_address_at := cal_address_at (P := P) (w := w) (base := base) T F_c_address_at
  have c_segment_of := cal_segment_of (P := P) (w := w) (base := base) T F_c_segment_of
  have c_region_start := cal_region_start (P := P) (w := w) (base := base) T F_c_region_start
  have c_empty_table := cal_empty_table (P := P) (w := w) (base := base) T F_c_empty_table
  have c_is_payload := cal_is_payload (P := P) (w := w) (base := base) T F_c_is_payload
  have c_payload_of := cal_payload_of (P := P) (w := w) (base := base) T F_c_payload_of c_is_payload
  have c_stamped := cal_stamped (P := P) (w := w) (base := base) T F_c_stamped
  have c_commit_to_table := cal_commit_to_table (P := P) (w := w) (base := base) T F_c_commit_to_table
  have c_slots_after := cal_slots_after (P := P) (w := w) (base := base) T F_c_slots_after
  have c_move_in_table := cal_move_in_table (P := P) (w := w) (base := base) T F_c_move_in_table
  have c_Counts := mak_Counts___init__ (P := P) (w := w) (base := base) T F_c_Counts
  have c_Layout := mak_Layout___init__ (P := P) (w := w) (base := base) T F_c_Layout c_parts_of
  have c_D1 := mk1_Device___init__ (P := P) (w := w) (base := base) T F_c_D1
  have c_D2 := mk2_Device___init__ (P := P) (w := w) (base := base) T F_c_D1
  have c_Device__count_command := met_Device__count_command (P := P) (w := w) (base := base) T F_c_Device__count_command
  have c_Device_was_cut := met_Device_was_cut (P := P) (w := w) (base := base) T F_c_Device_was_cut
  have c_Device_pending := met_Device_pending (P := P) (w := w) (base := base) T F_c_Device_pending
  have c_Device_cut_after := met_Device_cut_after (P := P) (w := w) (base := base) T F_c_Device_cut_after
  have c_Device_read := met_Device_read (P := P) (w := w) (base := base) T F_c_Device_read
  have c_Device_write := met_Device_write (P := P) (w := w) (base := base) T F_c_Device_write c_Device__count_command
  have c_Device_barrier := met_Device_barrier (P := P) (w := w) (base := base) T F_c_Device_barrier c_Device__count_command
  have c_payload_at := cal_payload_at (P := P) (w := w) (base := base) T F_c_payload_at c_payload_of c_Device_read
  have c_next_sequence := cal_next_sequence (P := P) (w := w) (base := base) T F_c_next_sequence
  have c_enter_segment := cal_enter_segment (P := P) (w := w) (base := base) T F_c_enter_segment
  have c_sync_log := cal_sync_log (P := P) (w := w) (base := base) T F_c_sync_log c_Device_barrier
  have c_live_addresses := cal_live_addresses (P := P) (w := w) (base := base) T F_c_live_addresses
  have c_take_batch := cal_take_batch (P := P) (w := w) (base := base) T F_c_take_batch c_address_at c_commit_to_table c_slots_after c_move_in_table
  have c_write_batch := cal_write_batch (P := P) (w := w) (base := base) T F_c_write_batch c_next_sequence c_address_at c_stamped c_take_batch c_Device_write
  have c_append_commit := cal_append_commit (P := P) (w := w) (base := base) T F_c_append_commit c_enter_segment c_write_batch
  have c_append_move := cal_append_move (P := P) (w := w) (base := base) T F_c_append_move c_enter_segment c_write_batch c_payload_at
  have c_checkpoint_numbers := cal_checkpoint_numbers (P := P) (w := w) (base := base) T F_c_checkpoint_numbers
  have c_extended_queue := cal_extended_queue (P := P) (w := w) (base := base) T F_c_extended_queue c_live_addresses c_segment_of
  have c_write_checkpoint := cal_write_checkpoint (P := P) (w := w) (base := base) T F_c_write_checkpoint c_Device_barrier c_extended_queue c_next_sequence c_checkpoint_numbers c_region_start c_Device_write
  have c_Log := mak_Log___init__ (P := P) (w := w) (base := base) T F_c_Log c_empty_table c_Counts
  have c_new_log := cal_new_log (P := P) (w := w) (base := base) T F_c_new_log c_Log c_write_checkpoint
  have c_read_numbers := cal_read_numbers (P := P) (w := w) (base := base) T F_c_read_numbers
  have c_checkpoint_in := cal_checkpoint_in (P := P) (w := w) (base := base) T F_c_checkpoint_in c_region_start c_Device_read c_read_numbers
  have c_batch_at := cal_batch_at (P := P) (w := w) (base := base) T F_c_batch_at c_address_at c_Device_read c_is_payload
  have c_take_next := cal_take_next (P := P) (w := w) (base := base) T F_c_take_next c_batch_at c_enter_segment c_take_batch
  have c_recover := cal_recover (P := P) (w := w) (base := base) T F_c_recover c_checkpoint_in c_Log c_read_numbers c_take_next F_wb
  have c_mount_log := cal_mount_log (P := P) (w := w) (base := base) T F_c_mount_log c_recover c_write_checkpoint
  have c_left := metk_Device_left (P := P) (w := w) (base := base) T F_left c_D2
  have c_live_counts := cal_live_counts (P := P) (w := w) (base := base) T F_c_live_counts c_live_addresses c_segment_of
  have c_ages := cal_ages (P := P) (w := w) (base := base) T F_c_ages c_segment_of F_wb
  have c_has_room := cal_has_room (P := P) (w := w) (base := base) T F_c_has_room c_live_counts
  have c_candidates := cal_candidates (P := P) (w := w) (base := base) T F_c_candidates c_live_counts
  have c_victims := cal_victims (P := P) (w := w) (base := base) T F_c_victims c_candidates
  have c_cargo := cal_cargo (P := P) (w := w) (base := base) T F_c_cargo c_live_addresses c_segment_of c_victims
  have c_fill := cal_fill (P := P) (w := w) (base := base) T F_c_fill c_cargo c_append_move c_write_checkpoint
  have c_is_better := cal_is_better (P := P) (w := w) (base := base) T F_c_is_better
  have c_order_candidates := cal_order_candidates (P := P) (w := w) (base := base) T F_c_order_candidates c_live_counts c_ages c_candidates c_is_better
  have c_make_room := cal_make_room (P := P) (w := w) (base := base) T F_c_make_room c_has_room c_write_checkpoint c_fill c_order_candidates
  have c_clean_log := calk_clean_log (P := P) (w := w) (base := base) T F_c_clean_log c_candidates c_write_checkpoint c_fill c_order_candidates
  have c__law_row := cal__law_row (P := P) (w := w) (base := base) T F_c__law_row
  have c__law_digits := cal__law_digits (P := P) (w := w) (base := base) T F_c__law_digits
  have c__law_layout := cal__law_layout (P := P) (w := w) (base := base) T F_c__law_layout c__law_digits c_Layout
  have c__law_ids := cal__law_ids (P := P) (w := w) (base := base) T F_c__law_ids c__law_digits
  have c__law_payloads := cal__law_payloads (P := P) (w := w) (base := base) T F_c__law_payloads c__law_digits
  have c__law_used := cal__law_used (P := P) (w := w) (base := base) T F_c__law_used
  have c__law_after := cal__law_after (P := P) (w := w) (base := base) T F_c__law_after
  have c__law_contents := cal__law_contents (P := P) (w := w) (base := base) T F_c__law_contents c_Device_read
  have c__law_live := cal__law_live (P := P) (w := w) (base := base) T F_c__law_live
  have c__law_points := cal__law_points (P := P) (w := w) (base := base) T F_c__law_points c__law_live
  have c__law_failure := cal__law_failure (P := P) (w := w) (base := base) T F_c__law_failure c__law_digits c__law_row
  have c__law_quiet := cal__law_quiet (P := P) (w := w) (base := base) T F_c__law_quiet c__law_digits c_sync_log c_write_checkpoint c_fill c_clean_log
  have c__law_epoch := cal__law_epoch (P := P) (w := w) (base := base) T F_c__law_epoch c__law_row c__law_digits c_Device_cut_after c__law_quiet c_Device_was_cut c__law_ids c__law_payloads c__law_used c_make_room c_append_commit c__law_after
  exact ok_law T FL c__law_row c__law_layout c_D1 c_new_log c__law_epoch c__law_failure c_Device_pending c_left c_mount_log c__law_contents c__law_points
end K30
open PySem PySem.W PySem.Calls PyProof.Rows
set_option maxRecDepth 100000 in
set_option maxHeartbeats 0 in
theorem PySem.Challenge.cw_segmentfs_k30_whole_log_is_a_prefix_behi_holds : PySem.Challenge.rw_segmentfs_k30_whole_log_is_a_prefix_behi.Holds := by
  w_on; o_law
  refine HandSHeadRun.head_any (r := OpenLaw.row PySem.Challenge.rw_segmentfs_k30_whole_log_is_a_prefix_behi) (q := view (OpenLaw.row PySem.Challenge.rw_segmentfs_k30_whole_log_is_a_prefix_behi).prog [87]) (H := K30.hk) (ob := K30.ob) (M := 6000) (loose := K30.nms) (d := HandSHeadRun.topDef (OpenLaw.row PySem.Challenge.rw_segmentfs_k30_whole_log_is_a_prefix_behi).prog 87) (kwd := []) K30.ob_eq
    (by kernel_rfl) (fun s => by kernel_rfl) K30.run (by kernel_rfl) (by kernel_rfl) (by kernel_rfl) (by rfl) (by first | assumption | decide +kernel) (by decide +kernel) ⟨rfl, rfl, rfl, rfl, rfl, by decide +kernel⟩ ?hw ?hc
  case hw => w_witness2
  case hc =>
    refine L2.walk_ofE (l := PySem.Challenge.rw_segmentfs_k30_whole_log_is_a_prefix_behi) (n := 63) (k := 10) (x := "_law_script") (CX := C8.CX0) rfl (by decide) (by kernel_rfl) ⟨rfl, by decide, by decide⟩ ?F (fun _ _ _ _ z => z)
    intro w mg fa h Y G hmg0
    obtain ⟨K, KX, c⟩ := Y
    have hmg : mg ("law" : PySem.Str) = some (.ref fa) := by
      have e : (HandSHeadRun.topDef (OpenLaw.row PySem.Challenge.rw_segmentfs_k30_whole_log_is_a_prefix_behi).prog 87).name = ("law" : PySem.Str) := by kernel_rfl
      rw [← e]
      exact hmg0
    obtain ⟨fd, hb, hF⟩ := K30.facts (P := (PySem.Challenge.rw_segmentfs_k30_whole_log_is_a_prefix_behi).prog) (w := w) KX G hmg c
    exact ⟨K, fd, K30.sp_law K, KX, hb, fun H a ns hl _ hS => ⟨a, ns, rfl, hl, hS, fun _ => rfl⟩, hF⟩
