/- SHA-256's words: the plain functions, and the leaves' walks. -/
import Derived.Test.Qxb6500785aWord
set_option linter.unusedSimpArgs false
set_option linter.unusedVariables false
namespace Go.Proofs.Qxb6500785a
open Go.RowKit Go.Blk
attribute [local go_sem ↓] execOp_load execOp_store execOp_alloc
attribute [local go_sem] Try.ld24 Try.st24 Try.ld5 Try.st5 Try.ld3 Try.st3 Try.ld27 Try.st27 Try.ld32 Try.st32 Try.ld33 Try.st33 Try.ld4 Try.st4 Try.ld41 Try.st41 Try.ld40 Try.st40 Try.ld42 Try.st42 Try.ld47 Try.st47 Try.ld48 Try.st48 Try.ld57 Try.st57 Try.ld58 Try.st58 Try.ld2 Try.st2 Try.ld9 Try.st9 Try.ld12 Try.st12 Try.ld21 Try.st21 Try.ld22 Try.st22 Try.ld46 Try.st46 Try.ld83 Try.st83 Try.ld95 Try.st95 Try.ld99 Try.st99 Try.ld106 Try.st106 Try.ld108 Try.st108 Try.ld134 Try.st134 Try.ld25 Try.st25 Try.ld26 Try.st26 Try.ld34 Try.st34 Try.ld31 Try.st31 Try.ld30 Try.st30 Try.ld74 Try.st74 Try.ld96 Try.st96 Try.ld101 Try.st101 Try.ld115 Try.st115 Try.ld116 Try.st116 Try.ld120 Try.st120 Try.ld121 Try.st121 Try.ld122 Try.st122 Try.ld29 Try.st29 Try.ld36 Try.st36 Try.ld38 Try.st38 Try.ld44 Try.st44 Try.ld50 Try.st50 Try.ld60 Try.st60 Try.ld110 Try.st110 Try.al25 Try.al26 Try.al34 Try.al31 Try.al30 Try.al74 Try.al96 Try.al101 Try.al115 Try.al116 Try.al120 Try.al121 Try.al122 Try.al29 Try.al36 Try.al38 Try.al44 Try.al50 Try.al60 Try.al110
attribute [local go_sem] Hasher.length_enc Hasher.ok_enc Hasher.all_get Hasher.all_set Hasher.state_get Hasher.state_set Hasher.block_get Hasher.block_set Hasher.fill_get Hasher.fill_set Hasher.length_get Hasher.length_set GLog.length_enc GLog.ok_enc GLog.all_get GLog.all_set GLog.entries_get GLog.entries_set GLog.shelves_get GLog.shelves_set GLog.first_get GLog.first_set GLog.second_get GLog.second_set GLog.found_get GLog.found_set Player.length_enc Player.ok_enc Player.all_get Player.all_set Player.hand_get Player.hand_set Player.aside_get Player.aside_set Player.prev_get Player.prev_set Player.last_get Player.last_set Player.log_get Player.log_set Player.hand_state_get Player.hand_state_set Player.hand_block_get Player.hand_block_set Player.hand_fill_get Player.hand_fill_set Player.hand_length_get Player.hand_length_set Player.aside_state_get Player.aside_state_set Player.aside_block_get Player.aside_block_set Player.aside_fill_get Player.aside_fill_set Player.aside_length_get Player.aside_length_set Player.log_entries_get Player.log_entries_set Player.log_shelves_get Player.log_shelves_set Player.log_first_get Player.log_first_set Player.log_second_get Player.log_second_set Player.log_found_get Player.log_found_set GOp.length_enc GOp.ok_enc GOp.all_get GOp.all_set GOp.kind_get GOp.kind_set GOp.data_get GOp.data_set GOp.cut_get GOp.cut_set GOp.n_get GOp.n_set GOp.b_get GOp.b_set GOp.v_get GOp.v_set GOp.dom_get GOp.dom_set GOp.sum_get GOp.sum_set Answer.length_enc Answer.ok_enc Answer.all_get Answer.all_set Answer.code_get Answer.code_set Answer.sum_get Answer.sum_set Answer.len_get Answer.len_set Answer.mark_get Answer.mark_set Answer.noted_get Answer.noted_set Answer.collided_get Answer.collided_set GState.length_enc GState.ok_enc GState.all_get GState.all_set GState.hand_get GState.hand_set GState.aside_get GState.aside_set GState.prev_get GState.prev_set GState.last_get GState.last_set GState.inputs_get GState.inputs_set GState.sums_get GState.sums_set GState.collided_get GState.collided_set GState.older_get GState.older_set GState.younger_get GState.younger_set Noted.length_enc Noted.ok_enc Noted.all_get Noted.all_set Noted.input_get Noted.input_set Noted.sum_get Noted.sum_set
attribute [local go_sem] size_put size_ext blk_put free_put blk_alloc free_alloc blk_drew free_drew blk_ext free_ext lookOr_some putOr_some segAt_some cellAt_some storeIn_some put_put put_alloc_new length_arr ok_arr_u8 ok_arr_u32 ok_arr_u64 ok_arr_i64 ok_arr_sl cellsV_agg cellsV_int cellsV_bool cellsV_string cellsV_pointer cellsV_slice cellsV_sl ok_int ok_bool ok_string ok_pointer ok_slice ok_sl toList_arr seg_arr set_arr nth_splice nth_splice0 seg_splice seg_splice0 splice_splice splice_splice0 length_splice_if
attribute [local go_sem] w32_and w32_or w32_xor w32_add w32_or8 w32_not w8_and w8_or w8_xor w32_shr2 w32_shl2 w32_shr3 w32_shl3 w32_shr6 w32_shl6 w32_shr7 w32_shl7 w32_shr8 w32_shl8 w32_shr10 w32_shl10 w32_shr11 w32_shl11 w32_shr13 w32_shl13 w32_shr14 w32_shl14 w32_shr15 w32_shl15 w32_shr16 w32_shl16 w32_shr17 w32_shl17 w32_shr18 w32_shl18 w32_shr19 w32_shl19 w32_shr21 w32_shl21 w32_shr22 w32_shl22 w32_shr24 w32_shl24 w32_shr25 w32_shl25 w32_shr26 w32_shl26 w32_shr30 w32_shl30 w8_shl24 w8_shl16 w8_shl8 v32_add v32_byte w32_byte0 v8_shl24 v8_shl16 v8_shl8 v32_shr2 v32_shl2 v32_shr3 v32_shl3 v32_shr6 v32_shl6 v32_shr7 v32_shl7 v32_shr8 v32_shl8 v32_shr10 v32_shl10 v32_shr11 v32_shl11 v32_shr13 v32_shl13 v32_shr14 v32_shl14 v32_shr15 v32_shl15 v32_shr16 v32_shl16 v32_shr17 v32_shl17 v32_shr18 v32_shl18 v32_shr19 v32_shl19 v32_shr21 v32_shl21 v32_shr22 v32_shl22 v32_shr24 v32_shl24 v32_shr25 v32_shl25 v32_shr26 v32_shl26 v32_shr30 v32_shl30

def iv : Vector UInt32 8 := #v[1779033703, 3144134277, 1013904242, 2773480762, 1359893119, 2600822924, 528734635, 1541459225]
def kv : Vector UInt32 64 := #v[1116352408, 1899447441, 3049323471, 3921009573, 961987163, 1508970993, 2453635748, 2870763221, 3624381080, 310598401, 607225278, 1426881987, 1925078388, 2162078206, 2614888103, 3248222580, 3835390401, 4022224774, 264347078, 604807628, 770255983, 1249150122, 1555081692, 1996064986, 2554220882, 2821834349, 2952996808, 3210313671, 3336571891, 3584528711, 113926993, 338241895, 666307205, 773529912, 1294757372, 1396182291, 1695183700, 1986661051, 2177026350, 2456956037, 2730485921, 2820302411, 3259730800, 3345764771, 3516065817, 3600352804, 4094571909, 275423344, 430227734, 506948616, 659060556, 883997877, 958139571, 1322822218, 1537002063, 1747873779, 1955562222, 2024104815, 2227730452, 2361852424, 2428436474, 2756734187, 3204031479, 3329325298]
def sg0 (x : UInt32) : UInt32 := (x >>> 7 ||| x <<< 25) ^^^ (x >>> 18 ||| x <<< 14) ^^^ x >>> 3
def sg1 (x : UInt32) : UInt32 := (x >>> 17 ||| x <<< 15) ^^^ (x >>> 19 ||| x <<< 13) ^^^ x >>> 10
def bg0 (x : UInt32) : UInt32 := (x >>> 2 ||| x <<< 30) ^^^ (x >>> 13 ||| x <<< 19) ^^^ (x >>> 22 ||| x <<< 10)
def bg1 (x : UInt32) : UInt32 := (x >>> 6 ||| x <<< 26) ^^^ (x >>> 11 ||| x <<< 21) ^^^ (x >>> 25 ||| x <<< 7)
def chF (x y z : UInt32) : UInt32 := x &&& y ^^^ ~~~x &&& z
def majF (x y z : UInt32) : UInt32 := x &&& y ^^^ x &&& z ^^^ y &&& z
def kInt (t : Int) : Int :=
  if t = 0 then 1116352408 else
  if t = 1 then 1899447441 else
  if t = 2 then 3049323471 else
  if t = 3 then 3921009573 else
  if t = 4 then 961987163 else
  if t = 5 then 1508970993 else
  if t = 6 then 2453635748 else
  if t = 7 then 2870763221 else
  if t = 8 then 3624381080 else
  if t = 9 then 310598401 else
  if t = 10 then 607225278 else
  if t = 11 then 1426881987 else
  if t = 12 then 1925078388 else
  if t = 13 then 2162078206 else
  if t = 14 then 2614888103 else
  if t = 15 then 3248222580 else
  if t = 16 then 3835390401 else
  if t = 17 then 4022224774 else
  if t = 18 then 264347078 else
  if t = 19 then 604807628 else
  if t = 20 then 770255983 else
  if t = 21 then 1249150122 else
  if t = 22 then 1555081692 else
  if t = 23 then 1996064986 else
  if t = 24 then 2554220882 else
  if t = 25 then 2821834349 else
  if t = 26 then 2952996808 else
  if t = 27 then 3210313671 else
  if t = 28 then 3336571891 else
  if t = 29 then 3584528711 else
  if t = 30 then 113926993 else
  if t = 31 then 338241895 else
  if t = 32 then 666307205 else
  if t = 33 then 773529912 else
  if t = 34 then 1294757372 else
  if t = 35 then 1396182291 else
  if t = 36 then 1695183700 else
  if t = 37 then 1986661051 else
  if t = 38 then 2177026350 else
  if t = 39 then 2456956037 else
  if t = 40 then 2730485921 else
  if t = 41 then 2820302411 else
  if t = 42 then 3259730800 else
  if t = 43 then 3345764771 else
  if t = 44 then 3516065817 else
  if t = 45 then 3600352804 else
  if t = 46 then 4094571909 else
  if t = 47 then 275423344 else
  if t = 48 then 430227734 else
  if t = 49 then 506948616 else
  if t = 50 then 659060556 else
  if t = 51 then 883997877 else
  if t = 52 then 958139571 else
  if t = 53 then 1322822218 else
  if t = 54 then 1537002063 else
  if t = 55 then 1747873779 else
  if t = 56 then 1955562222 else
  if t = 57 then 2024104815 else
  if t = 58 then 2227730452 else
  if t = 59 then 2361852424 else
  if t = 60 then 2428436474 else
  if t = 61 then 2756734187 else
  if t = 62 then 3204031479 else
  if t = 63 then 3329325298 else
  0
def hInt (t : Int) : Int :=
  if t = 0 then 1779033703 else
  if t = 1 then 3144134277 else
  if t = 2 then 1013904242 else
  if t = 3 then 2773480762 else
  if t = 4 then 1359893119 else
  if t = 5 then 2600822924 else
  if t = 6 then 528734635 else
  if t = 7 then 1541459225 else
  0
theorem ret_int {k : IntKind} {a b : Int} (h : a = b) : Ending.returned (.int k a) = .returned (.int k b) := by rw [h]

theorem sg1_any (w : World) (x : UInt32) : Calls Try.prog 59 #[.int .u32 (w32 x)] w fun e w' => e = .returned (.int .u32 (w32 (sg1 x))) ∧ w' = w := by
  go_enter Try.func59, Try.ntmps59
  go_wp2
  go_ret
  exact ⟨rfl, rfl⟩

theorem sg0_any (w : World) (x : UInt32) : Calls Try.prog 60 #[.int .u32 (w32 x)] w fun e w' => e = .returned (.int .u32 (w32 (sg0 x))) ∧ w' = w := by
  go_enter Try.func60, Try.ntmps60
  go_wp2
  go_ret
  exact ⟨rfl, rfl⟩

theorem bg1_any (w : World) (x : UInt32) : Calls Try.prog 61 #[.int .u32 (w32 x)] w fun e w' => e = .returned (.int .u32 (w32 (bg1 x))) ∧ w' = w := by
  go_enter Try.func61, Try.ntmps61
  go_wp2
  go_ret
  exact ⟨rfl, rfl⟩

theorem bg0_any (w : World) (x : UInt32) : Calls Try.prog 63 #[.int .u32 (w32 x)] w fun e w' => e = .returned (.int .u32 (w32 (bg0 x))) ∧ w' = w := by
  go_enter Try.func63, Try.ntmps63
  go_wp2
  go_ret
  exact ⟨rfl, rfl⟩

theorem chF_any (w : World) (x y z : UInt32) : Calls Try.prog 62 #[.int .u32 (w32 x), .int .u32 (w32 y), .int .u32 (w32 z)] w fun e w' => e = .returned (.int .u32 (w32 (chF x y z))) ∧ w' = w := by
  go_enter Try.func62, Try.ntmps62
  go_wp2
  go_ret
  exact ⟨rfl, rfl⟩

theorem majF_any (w : World) (x y z : UInt32) : Calls Try.prog 64 #[.int .u32 (w32 x), .int .u32 (w32 y), .int .u32 (w32 z)] w fun e w' => e = .returned (.int .u32 (w32 (majF x y z))) ∧ w' = w := by
  go_enter Try.func64, Try.ntmps64
  go_wp2
  go_ret
  exact ⟨rfl, rfl⟩

set_option maxHeartbeats 4000000 in
set_option maxRecDepth 100000 in
theorem kInt_any (w : World) (c : Int) : Calls Try.prog 42 #[.int .i64 c] w fun e w' => e = .returned (.int .u32 (kInt c)) ∧ w' = w := by
  go_enter Try.func42, Try.ntmps42
  go_wp2
  all_goals
    go_ret
    refine ⟨?_, rfl⟩
    simp only [beq_iff_eq, beq_eq_false_iff_ne, ne_eq] at *
    first | (subst c; rfl) | (simp_all [kInt]; done)

set_option maxHeartbeats 4000000 in
set_option maxRecDepth 100000 in
theorem hInt_any (w : World) (c : Int) : Calls Try.prog 43 #[.int .i64 c] w fun e w' => e = .returned (.int .u32 (hInt c)) ∧ w' = w := by
  go_enter Try.func43, Try.ntmps43
  go_wp2
  all_goals
    go_ret
    refine ⟨?_, rfl⟩
    simp only [beq_iff_eq, beq_eq_false_iff_ne, ne_eq] at *
    first | (subst c; rfl) | (simp_all [hInt]; done)

theorem kInt_all : ∀ i : Fin 64, kInt (i.val : Int) = w32 (kv[i.val]'(i.isLt)) := by decide +kernel
theorem hInt_all : ∀ i : Fin 8, hInt (i.val : Int) = w32 (iv[i.val]'(i.isLt)) := by decide +kernel
theorem kInt_at {t : Nat} (h : t < 64) : kInt t = w32 (kv[t]) := kInt_all ⟨t, h⟩
theorem hInt_at {t : Nat} (h : t < 8) : hInt t = w32 (iv[t]) := hInt_all ⟨t, h⟩
theorem iv_lit : ([.int .u32 1779033703, .int .u32 3144134277, .int .u32 1013904242, .int .u32 2773480762, .int .u32 1359893119, .int .u32 2600822924, .int .u32 528734635, .int .u32 1541459225] : List Value) = arr u32v iv := by rfl
def buildOp (t : TypeId) (parts : Array (Nat × Value)) : Sem Next := do pure (.value (← Instr.build t parts))
theorem execOp_build (a : Act) (dst : Option Tmp) (t : TypeId) (parts : Array (Nat × Operand)) (ty : TypeId) (pos : String) (after : Array Edge) (guard : Option (Nat × Bool)) :
    execOp a.eval { dst, op := .build t parts, type := ty, pos, after, guard } = buildOp t (parts.map fun (i, x) => (i, a.eval x)) := rfl
theorem run_build_kv (w : World) : (buildOp 101 #[(0, .int .u32 1116352408), (1, .int .u32 1899447441), (2, .int .u32 3049323471), (3, .int .u32 3921009573), (4, .int .u32 961987163), (5, .int .u32 1508970993), (6, .int .u32 2453635748), (7, .int .u32 2870763221), (8, .int .u32 3624381080), (9, .int .u32 310598401), (10, .int .u32 607225278), (11, .int .u32 1426881987), (12, .int .u32 1925078388), (13, .int .u32 2162078206), (14, .int .u32 2614888103), (15, .int .u32 3248222580), (16, .int .u32 3835390401), (17, .int .u32 4022224774), (18, .int .u32 264347078), (19, .int .u32 604807628), (20, .int .u32 770255983), (21, .int .u32 1249150122), (22, .int .u32 1555081692), (23, .int .u32 1996064986), (24, .int .u32 2554220882), (25, .int .u32 2821834349), (26, .int .u32 2952996808), (27, .int .u32 3210313671), (28, .int .u32 3336571891), (29, .int .u32 3584528711), (30, .int .u32 113926993), (31, .int .u32 338241895), (32, .int .u32 666307205), (33, .int .u32 773529912), (34, .int .u32 1294757372), (35, .int .u32 1396182291), (36, .int .u32 1695183700), (37, .int .u32 1986661051), (38, .int .u32 2177026350), (39, .int .u32 2456956037), (40, .int .u32 2730485921), (41, .int .u32 2820302411), (42, .int .u32 3259730800), (43, .int .u32 3345764771), (44, .int .u32 3516065817), (45, .int .u32 3600352804), (46, .int .u32 4094571909), (47, .int .u32 275423344), (48, .int .u32 430227734), (49, .int .u32 506948616), (50, .int .u32 659060556), (51, .int .u32 883997877), (52, .int .u32 958139571), (53, .int .u32 1322822218), (54, .int .u32 1537002063), (55, .int .u32 1747873779), (56, .int .u32 1955562222), (57, .int .u32 2024104815), (58, .int .u32 2227730452), (59, .int .u32 2361852424), (60, .int .u32 2428436474), (61, .int .u32 2756734187), (62, .int .u32 3204031479), (63, .int .u32 3329325298)]).run Try.prog w = .ok (.value (.agg (arr u32v kv).toArray)) w := by kernel_rfl
theorem run_build_iv (w : World) : (buildOp 25 #[(0, .int .u32 1779033703), (1, .int .u32 3144134277), (2, .int .u32 1013904242), (3, .int .u32 2773480762), (4, .int .u32 1359893119), (5, .int .u32 2600822924), (6, .int .u32 528734635), (7, .int .u32 1541459225)]).run Try.prog w = .ok (.value (.agg (arr u32v iv).toArray)) w := by kernel_rfl
end Go.Proofs.Qxb6500785a
