import PyProof.Rows.All
import Wide.All
import OpenK.AllK
import Wide.FinOn
import KE.KStateDown
import Open.SpecLaws
import KE.OsGo
import HandS.ForSpec
import HandS.Dict
import HandS.Iter
import HandS.More
import HandS.CallLocal
import HandS.Text
import HandS.Defaults
import HandS.Head0
import HandS.Head1
import HandS.Head2
import HandS.Head4
import HandS.HeadHook1
import HandS.HeadHook2
import HandS.HeadHook3
import HandS.HeadHook4
import PySem.Challenge.RW_bytecore_s02_words
set_option Elab.async false
set_option linter.all false
set_option maxRecDepth 100000
set_option maxHeartbeats 4000000
namespace Bc
open Sf43
/-! ### masks -/
theorem land_split (k w m : Nat) : w &&& m = 2 ^ k * (w / 2 ^ k &&& m / 2 ^ k) + (w % 2 ^ k &&& m % 2 ^ k) := by
  rw [← Nat.and_div_two_pow, ← Nat.and_mod_two_pow]
  exact (Nat.div_add_mod _ _).symm
theorem land_ones (k w : Nat) : w &&& (2 ^ k - 1) = w % 2 ^ k := Nat.and_two_pow_sub_one_eq_mod w k
theorem m64512 {w : Nat} (h : w < 65536) : (w &&& 64512) = w / 1024 * 1024 := by
  rw [land_split 10 (w) 64512]
  show 1024 * (w / 1024 &&& (2 ^ 6 - 1)) + ((w % 1024) &&& 0) = _
  rw [land_ones, Nat.and_zero]
  omega
theorem m61440 {w : Nat} (h : w < 65536) : (w &&& 61440) = w / 4096 * 4096 := by
  rw [land_split 12 (w) 61440]
  show 4096 * (w / 4096 &&& (2 ^ 4 - 1)) + ((w % 4096) &&& 0) = _
  rw [land_ones, Nat.and_zero]
  omega
theorem m65039 {w : Nat} (h : w < 65536) : (w &&& 65039) = w / 512 * 512 + w % 16 := by
  rw [land_split 9 (w) 65039]
  show 512 * (w / 512 &&& (2 ^ 7 - 1)) + ((w % 512) &&& (2 ^ 4 - 1)) = _
  rw [land_ones, land_ones]
  omega
theorem m65280 {w : Nat} (h : w < 65536) : (w &&& 65280) = w / 256 * 256 := by
  rw [land_split 8 (w) 65280]
  show 256 * (w / 256 &&& (2 ^ 8 - 1)) + ((w % 256) &&& 0) = _
  rw [land_ones, Nat.and_zero]
  omega
theorem m65416 {w : Nat} (h : w < 65536) : (w &&& 65416) = w / 128 * 128 + w / 8 % 2 * 8 := by
  rw [land_split 7 (w) 65416]
  show 128 * (w / 128 &&& (2 ^ 9 - 1)) + ((w % 128) &&& 8) = _
  rw [land_split 3 ((w % 128)) 8]
  show 128 * (w / 128 &&& (2 ^ 9 - 1)) + (8 * ((w % 128) / 8 &&& (2 ^ 1 - 1)) + (((w % 128) % 8) &&& 0)) = _
  rw [land_ones, land_ones, Nat.and_zero]
  omega
theorem m65038 {w : Nat} (h : w < 65536) : (w &&& 65038) = w / 512 * 512 + w % 16 / 2 * 2 := by
  rw [land_split 9 (w) 65038]
  show 512 * (w / 512 &&& (2 ^ 7 - 1)) + ((w % 512) &&& 14) = _
  rw [land_split 1 ((w % 512)) 14]
  show 512 * (w / 512 &&& (2 ^ 7 - 1)) + (2 * ((w % 512) / 2 &&& (2 ^ 3 - 1)) + (((w % 512) % 2) &&& 0)) = _
  rw [land_ones, land_ones, Nat.and_zero]
  omega
theorem m65535 {w : Nat} (h : w < 65536) : (w &&& 65535) = w := by
  show (w &&& (2 ^ 16 - 1)) = w
  rw [land_ones]
  omega
theorem m53768 {w : Nat} (h : w < 65536) : (w &&& 53768) = w / 16384 * 16384 + w / 4096 % 2 * 4096 + w / 512 % 2 * 512 + w / 8 % 2 * 8 := by
  rw [land_split 14 (w) 53768]
  show 16384 * (w / 16384 &&& (2 ^ 2 - 1)) + ((w % 16384) &&& 4616) = _
  rw [land_split 12 ((w % 16384)) 4616]
  show 16384 * (w / 16384 &&& (2 ^ 2 - 1)) + (4096 * ((w % 16384) / 4096 &&& (2 ^ 1 - 1)) + (((w % 16384) % 4096) &&& 520)) = _
  rw [land_split 9 (((w % 16384) % 4096)) 520]
  show 16384 * (w / 16384 &&& (2 ^ 2 - 1)) + (4096 * ((w % 16384) / 4096 &&& (2 ^ 1 - 1)) + (512 * (((w % 16384) % 4096) / 512 &&& (2 ^ 1 - 1)) + ((((w % 16384) % 4096) % 512) &&& 8))) = _
  rw [land_split 3 ((((w % 16384) % 4096) % 512)) 8]
  show 16384 * (w / 16384 &&& (2 ^ 2 - 1)) + (4096 * ((w % 16384) / 4096 &&& (2 ^ 1 - 1)) + (512 * (((w % 16384) % 4096) / 512 &&& (2 ^ 1 - 1)) + (8 * ((((w % 16384) % 4096) % 512) / 8 &&& (2 ^ 1 - 1)) + (((((w % 16384) % 4096) % 512) % 8) &&& 0)))) = _
  rw [land_ones, land_ones, land_ones, land_ones, Nat.and_zero]
  omega
theorem m63488 {w : Nat} (h : w < 65536) : (w &&& 63488) = w / 2048 * 2048 := by
  rw [land_split 11 (w) 63488]
  show 2048 * (w / 2048 &&& (2 ^ 5 - 1)) + ((w % 2048) &&& 0) = _
  rw [land_ones, Nat.and_zero]
  omega
theorem m65032 {w : Nat} (h : w < 65536) : (w &&& 65032) = w / 512 * 512 + w / 8 % 2 * 8 := by
  rw [land_split 9 (w) 65032]
  show 512 * (w / 512 &&& (2 ^ 7 - 1)) + ((w % 512) &&& 8) = _
  rw [land_split 3 ((w % 512)) 8]
  show 512 * (w / 512 &&& (2 ^ 7 - 1)) + (8 * ((w % 512) / 8 &&& (2 ^ 1 - 1)) + (((w % 512) % 8) &&& 0)) = _
  rw [land_ones, land_ones, Nat.and_zero]
  omega
theorem m65423 {w : Nat} (h : w < 65536) : (w &&& 65423) = w / 128 * 128 + w % 16 := by
  rw [land_split 7 (w) 65423]
  show 128 * (w / 128 &&& (2 ^ 9 - 1)) + ((w % 128) &&& (2 ^ 4 - 1)) = _
  rw [land_ones, land_ones]
  omega
theorem neg_tr {α : Type} {c : Prop} [Decidable c] {a b r : α} (h : ¬ c) (k : b = r) : (if c then a else b) = r := (if_neg h).trans k
theorem pos_tr {α : Type} {c : Prop} [Decidable c] {a b r : α} (h : c) (k : a = r) : (if c then a else b) = r := (if_pos h).trans k
/-! ### the table -/
def tab : List (Nat × Nat × String) := [
  (64512, 3072, "add"), (64512, 7168, "adc"), (64512, 6144, "sub"), (64512, 2048, "sbc"), (64512, 5120, "cp"),
  (64512, 1024, "cpc"), (64512, 4096, "cpse"), (64512, 8192, "and"), (64512, 10240, "or"), (64512, 9216, "eor"),
  (64512, 11264, "mov"), (61440, 57344, "ldi"), (61440, 20480, "subi"), (61440, 16384, "sbci"), (61440, 12288, "cpi"),
  (61440, 28672, "andi"), (61440, 24576, "ori"), (65039, 37888, "com"), (65039, 37889, "neg"), (65039, 37890, "swap"),
  (65039, 37891, "inc"), (65039, 37893, "asr"), (65039, 37894, "lsr"), (65039, 37895, "ror"), (65039, 37898, "dec"),
  (65280, 38400, "adiw"), (65280, 38656, "sbiw"), (64512, 39936, "mul"), (65280, 512, "muls"), (65416, 768, "mulsu"),
  (65280, 256, "movw"), (61440, 49152, "rjmp"), (61440, 53248, "rcall"), (65038, 37900, "jmp"), (65038, 37902, "call"),
  (65535, 37897, "ijmp"), (65535, 38153, "icall"), (65535, 38152, "ret"), (65535, 38168, "reti"), (64512, 61440, "brbs"),
  (64512, 62464, "brbc"), (65039, 36876, "ldx"), (65039, 36877, "ldxp"), (65039, 36878, "ldmx"), (65039, 36873, "ldyp"),
  (65039, 36874, "ldmy"), (65039, 36865, "ldzp"), (65039, 36866, "ldmz"), (53768, 32776, "lddy"), (53768, 32768, "lddz"),
  (65039, 37388, "stx"), (65039, 37389, "stxp"), (65039, 37390, "stmx"), (65039, 37385, "styp"), (65039, 37386, "stmy"),
  (65039, 37377, "stzp"), (65039, 37378, "stmz"), (53768, 33288, "stdy"), (53768, 33280, "stdz"), (65039, 36864, "lds"),
  (65039, 37376, "sts"), (65535, 38344, "lpm"), (65039, 36868, "lpmz"), (65039, 36869, "lpmzp"), (65039, 37391, "push"),
  (65039, 36879, "pop"), (63488, 45056, "in"), (63488, 47104, "out"), (65280, 39424, "sbi"), (65280, 38912, "cbi"),
  (65280, 39680, "sbis"), (65280, 39168, "sbic"), (65032, 65024, "sbrs"), (65032, 64512, "sbrc"), (65032, 64000, "bst"),
  (65032, 63488, "bld"), (65423, 37896, "bset"), (65423, 38024, "bclr"), (65535, 0, "nop"), (65535, 38312, "wdr"),
  (65535, 38280, "sleep"), (65535, 38296, "break")
  ]
def two (n : String) : Bool := n == "lds" || n == "sts" || n == "jmp" || n == "call"
def entOf (w : Nat) : Option (Nat × Nat × String) := tab.find? fun e => w &&& e.1 == e.2.1
/-! ### the later parts of decode's questions -/
def decMem (x : Nat) (next : Option Nat) : Option Insn :=
  let d := x / 16 % 32
  let low := x % 16
  let st := x / 512 == 0x49
  let mem (p : Nat) (w : Way) : Option Insn := some (if st = true then .store d p w else .load d p w)
  if low = 0 then next.map fun y => if st = true then .sts d y else .lds d y
  else if low = 1 then mem 30 .after
  else if low = 2 then mem 30 .before
  else if low = 9 then mem 28 .after
  else if low = 10 then mem 28 .before
  else if low = 12 then mem 26 (.plain 0)
  else if low = 13 then mem 26 .after
  else if low = 14 then mem 26 .before
  else if low = 15 then some (if st = true then .push d else .pop d)
  else if low = 4 ∧ st = false then some (.lpm d false)
  else if low = 5 ∧ st = false then some (.lpm d true)
  else none
def decOne (x : Nat) (next : Option Nat) : Option Insn :=
  let d := x / 16 % 32
  let low := x % 16
  if low = 0 then some (.one .com d) else if low = 1 then some (.one .neg d) else if low = 2 then some (.one .swap d) else if low = 3 then some (.one .inc d)
     else if low = 5 then some (.one .asr d) else if low = 6 then some (.one .lsr d) else if low = 7 then some (.one .ror d) else if low = 10 then some (.one .dec d)
     else if low = 8 ∧ x / 256 = 0x94 then some (.flag (x / 16 % 8) (decide (x / 128 % 2 = 0)))
     else if low / 2 = 6 then next.map fun y => .jmp false ((x % 2 + 2 * (x / 16 % 32)) * 65536 + y)
     else if low / 2 = 7 then next.map fun y => .jmp true ((x % 2 + 2 * (x / 16 % 32)) * 65536 + y)
     else none
def decHi (x : Nat) : Option Insn :=
  let d := x / 16 % 32
  let r := x % 16 + 16 * (x / 512 % 2)
  if x / 256 = 0x96 ∨ x / 256 = 0x97 then some (.adiw (x / 256 == 0x97) (24 + 2 * (x / 16 % 4)) (x % 16 + 16 * (x / 64 % 4)))
  else if x / 256 = 0x98 then some (.port (x / 8 % 32) (x % 8) false)
  else if x / 256 = 0x99 then some (.skipPort (x / 8 % 32) (x % 8) false)
  else if x / 256 = 0x9A then some (.port (x / 8 % 32) (x % 8) true)
  else if x / 256 = 0x9B then some (.skipPort (x / 8 % 32) (x % 8) true)
  else if x / 1024 = 0x27 then some (.mul false false d r)
  else if x / 2048 = 0x16 then some (.in_ d (x % 16 + 16 * (x / 512 % 4)))
  else if x / 2048 = 0x17 then some (.out d (x % 16 + 16 * (x / 512 % 4)))
  else if x / 4096 = 12 then some (.rjmp false (signed 12 x))
  else if x / 4096 = 13 then some (.rjmp true (signed 12 x))
  else if x / 1024 = 0x3C then some (.branch (x % 8) true (signed 7 (x / 8)))
  else if x / 1024 = 0x3D then some (.branch (x % 8) false (signed 7 (x / 8)))
  else if x / 512 = 0x7C ∧ x / 8 % 2 = 0 then some (.bld d (x % 8))
  else if x / 512 = 0x7D ∧ x / 8 % 2 = 0 then some (.bst d (x % 8))
  else if x / 512 = 0x7E ∧ x / 8 % 2 = 0 then some (.skipReg d (x % 8) false)
  else if x / 512 = 0x7F ∧ x / 8 % 2 = 0 then some (.skipReg d (x % 8) true)
  else none
theorem dec_hi {w : Nat} (h1 : 38400 ≤ w) (h2 : ¬ w / 4096 = 14) (h3 : ¬ (w / 16384 = 2 ∧ w / 4096 % 2 = 0)) (nx : Option Nat) : decode w nx = decHi w := by
  repeat (first | refine neg_tr h2 ?_ | refine neg_tr h3 ?_ | refine neg_tr (by omega) ?_)
  rfl
theorem dec_mem {w : Nat} (h : w / 512 = 0x48 ∨ w / 512 = 0x49) (nx : Option Nat) : decode w nx = decMem w nx := by
  iterate 28 refine neg_tr (by omega) ?_
  exact if_pos h
theorem dec_one {w : Nat} (h : w / 512 = 0x4A) (h1 : ¬ (w = 0 ∨ w = 0x95A8)) (h2 : ¬ (w = 0x9588 ∨ w = 0x9598)) (h3 : ¬ w = 0x9409) (h4 : ¬ w = 0x9509) (h5 : ¬ w = 0x9508) (h6 : ¬ w = 0x9518) (h7 : ¬ w = 0x95C8) (nx : Option Nat) : decode w nx = decOne w nx := by
  refine neg_tr h1 (neg_tr h2 (neg_tr h3 (neg_tr h4 (neg_tr h5 (neg_tr h6 (neg_tr h7 ?_))))))
  iterate 22 refine neg_tr (by omega) ?_
  exact if_pos h
/-! ### each entry -/
theorem dec_add {w : Nat} (hw : w < 65536) (h : w &&& 64512 = 3072) (nx : Option Nat) : decode w nx = some (.sum .add (w / 16 % 32) (w % 16 + 16 * (w / 512 % 2))) := by
  rw [m64512 hw] at h
  repeat (first | refine neg_tr (by omega) ?_ | refine pos_tr (by omega) ?_)
  rfl
theorem len_add : ∀ w, w < 65536 → w &&& 64512 = 3072 → ∀ nx, (decode w nx).map wordsOf = if two "add" = true then nx.map (fun _ => 2) else some 1 := fun w hw h nx => by
  rw [dec_add hw h nx]
  rfl
theorem dec_adc {w : Nat} (hw : w < 65536) (h : w &&& 64512 = 7168) (nx : Option Nat) : decode w nx = some (.sum .adc (w / 16 % 32) (w % 16 + 16 * (w / 512 % 2))) := by
  rw [m64512 hw] at h
  repeat (first | refine neg_tr (by omega) ?_ | refine pos_tr (by omega) ?_)
  rfl
theorem len_adc : ∀ w, w < 65536 → w &&& 64512 = 7168 → ∀ nx, (decode w nx).map wordsOf = if two "adc" = true then nx.map (fun _ => 2) else some 1 := fun w hw h nx => by
  rw [dec_adc hw h nx]
  rfl
theorem dec_sub {w : Nat} (hw : w < 65536) (h : w &&& 64512 = 6144) (nx : Option Nat) : decode w nx = some (.dif .sub (w / 16 % 32) (.reg (w % 16 + 16 * (w / 512 % 2)))) := by
  rw [m64512 hw] at h
  repeat (first | refine neg_tr (by omega) ?_ | refine pos_tr (by omega) ?_)
  rfl
theorem len_sub : ∀ w, w < 65536 → w &&& 64512 = 6144 → ∀ nx, (decode w nx).map wordsOf = if two "sub" = true then nx.map (fun _ => 2) else some 1 := fun w hw h nx => by
  rw [dec_sub hw h nx]
  rfl
theorem dec_sbc {w : Nat} (hw : w < 65536) (h : w &&& 64512 = 2048) (nx : Option Nat) : decode w nx = some (.dif .sbc (w / 16 % 32) (.reg (w % 16 + 16 * (w / 512 % 2)))) := by
  rw [m64512 hw] at h
  repeat (first | refine neg_tr (by omega) ?_ | refine pos_tr (by omega) ?_)
  rfl
theorem len_sbc : ∀ w, w < 65536 → w &&& 64512 = 2048 → ∀ nx, (decode w nx).map wordsOf = if two "sbc" = true then nx.map (fun _ => 2) else some 1 := fun w hw h nx => by
  rw [dec_sbc hw h nx]
  rfl
theorem dec_cp {w : Nat} (hw : w < 65536) (h : w &&& 64512 = 5120) (nx : Option Nat) : decode w nx = some (.dif .cp (w / 16 % 32) (.reg (w % 16 + 16 * (w / 512 % 2)))) := by
  rw [m64512 hw] at h
  repeat (first | refine neg_tr (by omega) ?_ | refine pos_tr (by omega) ?_)
  rfl
theorem len_cp : ∀ w, w < 65536 → w &&& 64512 = 5120 → ∀ nx, (decode w nx).map wordsOf = if two "cp" = true then nx.map (fun _ => 2) else some 1 := fun w hw h nx => by
  rw [dec_cp hw h nx]
  rfl
theorem dec_cpc {w : Nat} (hw : w < 65536) (h : w &&& 64512 = 1024) (nx : Option Nat) : decode w nx = some (.dif .cpc (w / 16 % 32) (.reg (w % 16 + 16 * (w / 512 % 2)))) := by
  rw [m64512 hw] at h
  repeat (first | refine neg_tr (by omega) ?_ | refine pos_tr (by omega) ?_)
  rfl
theorem len_cpc : ∀ w, w < 65536 → w &&& 64512 = 1024 → ∀ nx, (decode w nx).map wordsOf = if two "cpc" = true then nx.map (fun _ => 2) else some 1 := fun w hw h nx => by
  rw [dec_cpc hw h nx]
  rfl
theorem dec_cpse {w : Nat} (hw : w < 65536) (h : w &&& 64512 = 4096) (nx : Option Nat) : decode w nx = some (.cpse (w / 16 % 32) (w % 16 + 16 * (w / 512 % 2))) := by
  rw [m64512 hw] at h
  repeat (first | refine neg_tr (by omega) ?_ | refine pos_tr (by omega) ?_)
  rfl
theorem len_cpse : ∀ w, w < 65536 → w &&& 64512 = 4096 → ∀ nx, (decode w nx).map wordsOf = if two "cpse" = true then nx.map (fun _ => 2) else some 1 := fun w hw h nx => by
  rw [dec_cpse hw h nx]
  rfl
theorem dec_and {w : Nat} (hw : w < 65536) (h : w &&& 64512 = 8192) (nx : Option Nat) : decode w nx = some (.logic .and (w / 16 % 32) (.reg (w % 16 + 16 * (w / 512 % 2)))) := by
  rw [m64512 hw] at h
  repeat (first | refine neg_tr (by omega) ?_ | refine pos_tr (by omega) ?_)
  rfl
theorem len_and : ∀ w, w < 65536 → w &&& 64512 = 8192 → ∀ nx, (decode w nx).map wordsOf = if two "and" = true then nx.map (fun _ => 2) else some 1 := fun w hw h nx => by
  rw [dec_and hw h nx]
  rfl
theorem dec_or {w : Nat} (hw : w < 65536) (h : w &&& 64512 = 10240) (nx : Option Nat) : decode w nx = some (.logic .or (w / 16 % 32) (.reg (w % 16 + 16 * (w / 512 % 2)))) := by
  rw [m64512 hw] at h
  repeat (first | refine neg_tr (by omega) ?_ | refine pos_tr (by omega) ?_)
  rfl
theorem len_or : ∀ w, w < 65536 → w &&& 64512 = 10240 → ∀ nx, (decode w nx).map wordsOf = if two "or" = true then nx.map (fun _ => 2) else some 1 := fun w hw h nx => by
  rw [dec_or hw h nx]
  rfl
theorem dec_eor {w : Nat} (hw : w < 65536) (h : w &&& 64512 = 9216) (nx : Option Nat) : decode w nx = some (.logic .eor (w / 16 % 32) (.reg (w % 16 + 16 * (w / 512 % 2)))) := by
  rw [m64512 hw] at h
  repeat (first | refine neg_tr (by omega) ?_ | refine pos_tr (by omega) ?_)
  rfl
theorem len_eor : ∀ w, w < 65536 → w &&& 64512 = 9216 → ∀ nx, (decode w nx).map wordsOf = if two "eor" = true then nx.map (fun _ => 2) else some 1 := fun w hw h nx => by
  rw [dec_eor hw h nx]
  rfl
theorem dec_mov {w : Nat} (hw : w < 65536) (h : w &&& 64512 = 11264) (nx : Option Nat) : decode w nx = some (.mov (w / 16 % 32) (.reg (w % 16 + 16 * (w / 512 % 2)))) := by
  rw [m64512 hw] at h
  repeat (first | refine neg_tr (by omega) ?_ | refine pos_tr (by omega) ?_)
  rfl
theorem len_mov : ∀ w, w < 65536 → w &&& 64512 = 11264 → ∀ nx, (decode w nx).map wordsOf = if two "mov" = true then nx.map (fun _ => 2) else some 1 := fun w hw h nx => by
  rw [dec_mov hw h nx]
  rfl
theorem dec_ldi {w : Nat} (hw : w < 65536) (h : w &&& 61440 = 57344) (nx : Option Nat) : decode w nx = some (.mov (16 + w / 16 % 16) (.num (w % 16 + 16 * (w / 256 % 16)))) := by
  rw [m61440 hw] at h
  repeat (first | refine neg_tr (by omega) ?_ | refine pos_tr (by omega) ?_)
  rfl
theorem len_ldi : ∀ w, w < 65536 → w &&& 61440 = 57344 → ∀ nx, (decode w nx).map wordsOf = if two "ldi" = true then nx.map (fun _ => 2) else some 1 := fun w hw h nx => by
  rw [dec_ldi hw h nx]
  rfl
theorem dec_subi {w : Nat} (hw : w < 65536) (h : w &&& 61440 = 20480) (nx : Option Nat) : decode w nx = some (.dif .sub (16 + w / 16 % 16) (.num (w % 16 + 16 * (w / 256 % 16)))) := by
  rw [m61440 hw] at h
  repeat (first | refine neg_tr (by omega) ?_ | refine pos_tr (by omega) ?_)
  rfl
theorem len_subi : ∀ w, w < 65536 → w &&& 61440 = 20480 → ∀ nx, (decode w nx).map wordsOf = if two "subi" = true then nx.map (fun _ => 2) else some 1 := fun w hw h nx => by
  rw [dec_subi hw h nx]
  rfl
theorem dec_sbci {w : Nat} (hw : w < 65536) (h : w &&& 61440 = 16384) (nx : Option Nat) : decode w nx = some (.dif .sbc (16 + w / 16 % 16) (.num (w % 16 + 16 * (w / 256 % 16)))) := by
  rw [m61440 hw] at h
  repeat (first | refine neg_tr (by omega) ?_ | refine pos_tr (by omega) ?_)
  rfl
theorem len_sbci : ∀ w, w < 65536 → w &&& 61440 = 16384 → ∀ nx, (decode w nx).map wordsOf = if two "sbci" = true then nx.map (fun _ => 2) else some 1 := fun w hw h nx => by
  rw [dec_sbci hw h nx]
  rfl
theorem dec_cpi {w : Nat} (hw : w < 65536) (h : w &&& 61440 = 12288) (nx : Option Nat) : decode w nx = some (.dif .cp (16 + w / 16 % 16) (.num (w % 16 + 16 * (w / 256 % 16)))) := by
  rw [m61440 hw] at h
  repeat (first | refine neg_tr (by omega) ?_ | refine pos_tr (by omega) ?_)
  rfl
theorem len_cpi : ∀ w, w < 65536 → w &&& 61440 = 12288 → ∀ nx, (decode w nx).map wordsOf = if two "cpi" = true then nx.map (fun _ => 2) else some 1 := fun w hw h nx => by
  rw [dec_cpi hw h nx]
  rfl
theorem dec_andi {w : Nat} (hw : w < 65536) (h : w &&& 61440 = 28672) (nx : Option Nat) : decode w nx = some (.logic .and (16 + w / 16 % 16) (.num (w % 16 + 16 * (w / 256 % 16)))) := by
  rw [m61440 hw] at h
  repeat (first | refine neg_tr (by omega) ?_ | refine pos_tr (by omega) ?_)
  rfl
theorem len_andi : ∀ w, w < 65536 → w &&& 61440 = 28672 → ∀ nx, (decode w nx).map wordsOf = if two "andi" = true then nx.map (fun _ => 2) else some 1 := fun w hw h nx => by
  rw [dec_andi hw h nx]
  rfl
theorem dec_ori {w : Nat} (hw : w < 65536) (h : w &&& 61440 = 24576) (nx : Option Nat) : decode w nx = some (.logic .or (16 + w / 16 % 16) (.num (w % 16 + 16 * (w / 256 % 16)))) := by
  rw [m61440 hw] at h
  repeat (first | refine neg_tr (by omega) ?_ | refine pos_tr (by omega) ?_)
  rfl
theorem len_ori : ∀ w, w < 65536 → w &&& 61440 = 24576 → ∀ nx, (decode w nx).map wordsOf = if two "ori" = true then nx.map (fun _ => 2) else some 1 := fun w hw h nx => by
  rw [dec_ori hw h nx]
  rfl
theorem dec_com {w : Nat} (hw : w < 65536) (h : w &&& 65039 = 37888) (nx : Option Nat) : decode w nx = some (.one .com (w / 16 % 32)) := by
  rw [m65039 hw] at h
  rw [dec_one (by omega) (by omega) (by omega) (by omega) (by omega) (by omega) (by omega) (by omega)]
  repeat (first | refine neg_tr (by omega) ?_ | refine pos_tr (by omega) ?_)
  rfl
theorem len_com : ∀ w, w < 65536 → w &&& 65039 = 37888 → ∀ nx, (decode w nx).map wordsOf = if two "com" = true then nx.map (fun _ => 2) else some 1 := fun w hw h nx => by
  rw [dec_com hw h nx]
  rfl
theorem dec_neg {w : Nat} (hw : w < 65536) (h : w &&& 65039 = 37889) (nx : Option Nat) : decode w nx = some (.one .neg (w / 16 % 32)) := by
  rw [m65039 hw] at h
  rw [dec_one (by omega) (by omega) (by omega) (by omega) (by omega) (by omega) (by omega) (by omega)]
  repeat (first | refine neg_tr (by omega) ?_ | refine pos_tr (by omega) ?_)
  rfl
theorem len_neg : ∀ w, w < 65536 → w &&& 65039 = 37889 → ∀ nx, (decode w nx).map wordsOf = if two "neg" = true then nx.map (fun _ => 2) else some 1 := fun w hw h nx => by
  rw [dec_neg hw h nx]
  rfl
theorem dec_swap {w : Nat} (hw : w < 65536) (h : w &&& 65039 = 37890) (nx : Option Nat) : decode w nx = some (.one .swap (w / 16 % 32)) := by
  rw [m65039 hw] at h
  rw [dec_one (by omega) (by omega) (by omega) (by omega) (by omega) (by omega) (by omega) (by omega)]
  repeat (first | refine neg_tr (by omega) ?_ | refine pos_tr (by omega) ?_)
  rfl
theorem len_swap : ∀ w, w < 65536 → w &&& 65039 = 37890 → ∀ nx, (decode w nx).map wordsOf = if two "swap" = true then nx.map (fun _ => 2) else some 1 := fun w hw h nx => by
  rw [dec_swap hw h nx]
  rfl
theorem dec_inc {w : Nat} (hw : w < 65536) (h : w &&& 65039 = 37891) (nx : Option Nat) : decode w nx = some (.one .inc (w / 16 % 32)) := by
  rw [m65039 hw] at h
  rw [dec_one (by omega) (by omega) (by omega) (by omega) (by omega) (by omega) (by omega) (by omega)]
  repeat (first | refine neg_tr (by omega) ?_ | refine pos_tr (by omega) ?_)
  rfl
theorem len_inc : ∀ w, w < 65536 → w &&& 65039 = 37891 → ∀ nx, (decode w nx).map wordsOf = if two "inc" = true then nx.map (fun _ => 2) else some 1 := fun w hw h nx => by
  rw [dec_inc hw h nx]
  rfl
theorem dec_asr {w : Nat} (hw : w < 65536) (h : w &&& 65039 = 37893) (nx : Option Nat) : decode w nx = some (.one .asr (w / 16 % 32)) := by
  rw [m65039 hw] at h
  rw [dec_one (by omega) (by omega) (by omega) (by omega) (by omega) (by omega) (by omega) (by omega)]
  repeat (first | refine neg_tr (by omega) ?_ | refine pos_tr (by omega) ?_)
  rfl
theorem len_asr : ∀ w, w < 65536 → w &&& 65039 = 37893 → ∀ nx, (decode w nx).map wordsOf = if two "asr" = true then nx.map (fun _ => 2) else some 1 := fun w hw h nx => by
  rw [dec_asr hw h nx]
  rfl
theorem dec_lsr {w : Nat} (hw : w < 65536) (h : w &&& 65039 = 37894) (nx : Option Nat) : decode w nx = some (.one .lsr (w / 16 % 32)) := by
  rw [m65039 hw] at h
  rw [dec_one (by omega) (by omega) (by omega) (by omega) (by omega) (by omega) (by omega) (by omega)]
  repeat (first | refine neg_tr (by omega) ?_ | refine pos_tr (by omega) ?_)
  rfl
theorem len_lsr : ∀ w, w < 65536 → w &&& 65039 = 37894 → ∀ nx, (decode w nx).map wordsOf = if two "lsr" = true then nx.map (fun _ => 2) else some 1 := fun w hw h nx => by
  rw [dec_lsr hw h nx]
  rfl
theorem dec_ror {w : Nat} (hw : w < 65536) (h : w &&& 65039 = 37895) (nx : Option Nat) : decode w nx = some (.one .ror (w / 16 % 32)) := by
  rw [m65039 hw] at h
  rw [dec_one (by omega) (by omega) (by omega) (by omega) (by omega) (by omega) (by omega) (by omega)]
  repeat (first | refine neg_tr (by omega) ?_ | refine pos_tr (by omega) ?_)
  rfl
theorem len_ror : ∀ w, w < 65536 → w &&& 65039 = 37895 → ∀ nx, (decode w nx).map wordsOf = if two "ror" = true then nx.map (fun _ => 2) else some 1 := fun w hw h nx => by
  rw [dec_ror hw h nx]
  rfl
theorem dec_dec {w : Nat} (hw : w < 65536) (h : w &&& 65039 = 37898) (nx : Option Nat) : decode w nx = some (.one .dec (w / 16 % 32)) := by
  rw [m65039 hw] at h
  rw [dec_one (by omega) (by omega) (by omega) (by omega) (by omega) (by omega) (by omega) (by omega)]
  repeat (first | refine neg_tr (by omega) ?_ | refine pos_tr (by omega) ?_)
  rfl
theorem len_dec : ∀ w, w < 65536 → w &&& 65039 = 37898 → ∀ nx, (decode w nx).map wordsOf = if two "dec" = true then nx.map (fun _ => 2) else some 1 := fun w hw h nx => by
  rw [dec_dec hw h nx]
  rfl
theorem dec_adiw {w : Nat} (hw : w < 65536) (h : w &&& 65280 = 38400) (nx : Option Nat) : decode w nx = some (.adiw false (24 + 2 * (w / 16 % 4)) (w % 16 + 16 * (w / 64 % 4))) := by
  rw [m65280 hw] at h
  have hs : (w / 256 == 0x97) = false := by rw [beq_eq_false_iff_ne]; omega
  rw [dec_hi (by omega) (by omega) (by omega)]
  repeat (first | refine neg_tr (by omega) ?_ | refine pos_tr (by omega) ?_)
  (first | rfl | (rw [hs]; done) | (rw [hs]; rfl))
theorem len_adiw : ∀ w, w < 65536 → w &&& 65280 = 38400 → ∀ nx, (decode w nx).map wordsOf = if two "adiw" = true then nx.map (fun _ => 2) else some 1 := fun w hw h nx => by
  rw [dec_adiw hw h nx]
  rfl
theorem dec_sbiw {w : Nat} (hw : w < 65536) (h : w &&& 65280 = 38656) (nx : Option Nat) : decode w nx = some (.adiw true (24 + 2 * (w / 16 % 4)) (w % 16 + 16 * (w / 64 % 4))) := by
  rw [m65280 hw] at h
  have hs : (w / 256 == 0x97) = true := by rw [beq_iff_eq]; omega
  rw [dec_hi (by omega) (by omega) (by omega)]
  repeat (first | refine neg_tr (by omega) ?_ | refine pos_tr (by omega) ?_)
  (first | rfl | (rw [hs]; done) | (rw [hs]; rfl))
theorem len_sbiw : ∀ w, w < 65536 → w &&& 65280 = 38656 → ∀ nx, (decode w nx).map wordsOf = if two "sbiw" = true then nx.map (fun _ => 2) else some 1 := fun w hw h nx => by
  rw [dec_sbiw hw h nx]
  rfl
theorem dec_mul {w : Nat} (hw : w < 65536) (h : w &&& 64512 = 39936) (nx : Option Nat) : decode w nx = some (.mul false false (w / 16 % 32) (w % 16 + 16 * (w / 512 % 2))) := by
  rw [m64512 hw] at h
  rw [dec_hi (by omega) (by omega) (by omega)]
  repeat (first | refine neg_tr (by omega) ?_ | refine pos_tr (by omega) ?_)
  rfl
theorem len_mul : ∀ w, w < 65536 → w &&& 64512 = 39936 → ∀ nx, (decode w nx).map wordsOf = if two "mul" = true then nx.map (fun _ => 2) else some 1 := fun w hw h nx => by
  rw [dec_mul hw h nx]
  rfl
theorem dec_muls {w : Nat} (hw : w < 65536) (h : w &&& 65280 = 512) (nx : Option Nat) : decode w nx = some (.mul true true (16 + w / 16 % 16) (16 + w % 16)) := by
  rw [m65280 hw] at h
  repeat (first | refine neg_tr (by omega) ?_ | refine pos_tr (by omega) ?_)
  rfl
theorem len_muls : ∀ w, w < 65536 → w &&& 65280 = 512 → ∀ nx, (decode w nx).map wordsOf = if two "muls" = true then nx.map (fun _ => 2) else some 1 := fun w hw h nx => by
  rw [dec_muls hw h nx]
  rfl
theorem dec_mulsu {w : Nat} (hw : w < 65536) (h : w &&& 65416 = 768) (nx : Option Nat) : decode w nx = some (.mul true false (16 + w / 16 % 8) (16 + w % 8)) := by
  rw [m65416 hw] at h
  repeat (first | refine neg_tr (by omega) ?_ | refine pos_tr (by omega) ?_)
  rfl
theorem len_mulsu : ∀ w, w < 65536 → w &&& 65416 = 768 → ∀ nx, (decode w nx).map wordsOf = if two "mulsu" = true then nx.map (fun _ => 2) else some 1 := fun w hw h nx => by
  rw [dec_mulsu hw h nx]
  rfl
theorem dec_movw {w : Nat} (hw : w < 65536) (h : w &&& 65280 = 256) (nx : Option Nat) : decode w nx = some (.movw (2 * (w / 16 % 16)) (2 * (w % 16))) := by
  rw [m65280 hw] at h
  repeat (first | refine neg_tr (by omega) ?_ | refine pos_tr (by omega) ?_)
  rfl
theorem len_movw : ∀ w, w < 65536 → w &&& 65280 = 256 → ∀ nx, (decode w nx).map wordsOf = if two "movw" = true then nx.map (fun _ => 2) else some 1 := fun w hw h nx => by
  rw [dec_movw hw h nx]
  rfl
theorem dec_rjmp {w : Nat} (hw : w < 65536) (h : w &&& 61440 = 49152) (nx : Option Nat) : decode w nx = some (.rjmp false (signed 12 w)) := by
  rw [m61440 hw] at h
  rw [dec_hi (by omega) (by omega) (by omega)]
  repeat (first | refine neg_tr (by omega) ?_ | refine pos_tr (by omega) ?_)
  rfl
theorem len_rjmp : ∀ w, w < 65536 → w &&& 61440 = 49152 → ∀ nx, (decode w nx).map wordsOf = if two "rjmp" = true then nx.map (fun _ => 2) else some 1 := fun w hw h nx => by
  rw [dec_rjmp hw h nx]
  rfl
theorem dec_rcall {w : Nat} (hw : w < 65536) (h : w &&& 61440 = 53248) (nx : Option Nat) : decode w nx = some (.rjmp true (signed 12 w)) := by
  rw [m61440 hw] at h
  rw [dec_hi (by omega) (by omega) (by omega)]
  repeat (first | refine neg_tr (by omega) ?_ | refine pos_tr (by omega) ?_)
  rfl
theorem len_rcall : ∀ w, w < 65536 → w &&& 61440 = 53248 → ∀ nx, (decode w nx).map wordsOf = if two "rcall" = true then nx.map (fun _ => 2) else some 1 := fun w hw h nx => by
  rw [dec_rcall hw h nx]
  rfl
theorem dec_jmp {w : Nat} (hw : w < 65536) (h : w &&& 65038 = 37900) (nx : Option Nat) : decode w nx = nx.map fun y => (.jmp false ((w % 2 + 2 * (w / 16 % 32)) * 65536 + y) : Insn) := by
  rw [m65038 hw] at h
  rw [dec_one (by omega) (by omega) (by omega) (by omega) (by omega) (by omega) (by omega) (by omega)]
  repeat (first | refine neg_tr (by omega) ?_ | refine pos_tr (by omega) ?_)
  rfl
theorem len_jmp : ∀ w, w < 65536 → w &&& 65038 = 37900 → ∀ nx, (decode w nx).map wordsOf = if two "jmp" = true then nx.map (fun _ => 2) else some 1 := fun w hw h nx => by
  rw [dec_jmp hw h nx]
  cases nx <;> rfl
theorem dec_call {w : Nat} (hw : w < 65536) (h : w &&& 65038 = 37902) (nx : Option Nat) : decode w nx = nx.map fun y => (.jmp true ((w % 2 + 2 * (w / 16 % 32)) * 65536 + y) : Insn) := by
  rw [m65038 hw] at h
  rw [dec_one (by omega) (by omega) (by omega) (by omega) (by omega) (by omega) (by omega) (by omega)]
  repeat (first | refine neg_tr (by omega) ?_ | refine pos_tr (by omega) ?_)
  rfl
theorem len_call : ∀ w, w < 65536 → w &&& 65038 = 37902 → ∀ nx, (decode w nx).map wordsOf = if two "call" = true then nx.map (fun _ => 2) else some 1 := fun w hw h nx => by
  rw [dec_call hw h nx]
  cases nx <;> rfl
theorem dec_ijmp {w : Nat} (hw : w < 65536) (h : w &&& 65535 = 37897) (nx : Option Nat) : decode w nx = some (.ijmp false) := by
  rw [m65535 hw] at h
  repeat (first | refine neg_tr (by omega) ?_ | refine pos_tr (by omega) ?_)
  rfl
theorem len_ijmp : ∀ w, w < 65536 → w &&& 65535 = 37897 → ∀ nx, (decode w nx).map wordsOf = if two "ijmp" = true then nx.map (fun _ => 2) else some 1 := fun w hw h nx => by
  rw [dec_ijmp hw h nx]
  rfl
theorem dec_icall {w : Nat} (hw : w < 65536) (h : w &&& 65535 = 38153) (nx : Option Nat) : decode w nx = some (.ijmp true) := by
  rw [m65535 hw] at h
  repeat (first | refine neg_tr (by omega) ?_ | refine pos_tr (by omega) ?_)
  rfl
theorem len_icall : ∀ w, w < 65536 → w &&& 65535 = 38153 → ∀ nx, (decode w nx).map wordsOf = if two "icall" = true then nx.map (fun _ => 2) else some 1 := fun w hw h nx => by
  rw [dec_icall hw h nx]
  rfl
theorem dec_ret {w : Nat} (hw : w < 65536) (h : w &&& 65535 = 38152) (nx : Option Nat) : decode w nx = some (.ret false) := by
  rw [m65535 hw] at h
  repeat (first | refine neg_tr (by omega) ?_ | refine pos_tr (by omega) ?_)
  rfl
theorem len_ret : ∀ w, w < 65536 → w &&& 65535 = 38152 → ∀ nx, (decode w nx).map wordsOf = if two "ret" = true then nx.map (fun _ => 2) else some 1 := fun w hw h nx => by
  rw [dec_ret hw h nx]
  rfl
theorem dec_reti {w : Nat} (hw : w < 65536) (h : w &&& 65535 = 38168) (nx : Option Nat) : decode w nx = some (.ret true) := by
  rw [m65535 hw] at h
  repeat (first | refine neg_tr (by omega) ?_ | refine pos_tr (by omega) ?_)
  rfl
theorem len_reti : ∀ w, w < 65536 → w &&& 65535 = 38168 → ∀ nx, (decode w nx).map wordsOf = if two "reti" = true then nx.map (fun _ => 2) else some 1 := fun w hw h nx => by
  rw [dec_reti hw h nx]
  rfl
theorem dec_brbs {w : Nat} (hw : w < 65536) (h : w &&& 64512 = 61440) (nx : Option Nat) : decode w nx = some (.branch (w % 8) true (signed 7 (w / 8))) := by
  rw [m64512 hw] at h
  rw [dec_hi (by omega) (by omega) (by omega)]
  repeat (first | refine neg_tr (by omega) ?_ | refine pos_tr (by omega) ?_)
  rfl
theorem len_brbs : ∀ w, w < 65536 → w &&& 64512 = 61440 → ∀ nx, (decode w nx).map wordsOf = if two "brbs" = true then nx.map (fun _ => 2) else some 1 := fun w hw h nx => by
  rw [dec_brbs hw h nx]
  rfl
theorem dec_brbc {w : Nat} (hw : w < 65536) (h : w &&& 64512 = 62464) (nx : Option Nat) : decode w nx = some (.branch (w % 8) false (signed 7 (w / 8))) := by
  rw [m64512 hw] at h
  rw [dec_hi (by omega) (by omega) (by omega)]
  repeat (first | refine neg_tr (by omega) ?_ | refine pos_tr (by omega) ?_)
  rfl
theorem len_brbc : ∀ w, w < 65536 → w &&& 64512 = 62464 → ∀ nx, (decode w nx).map wordsOf = if two "brbc" = true then nx.map (fun _ => 2) else some 1 := fun w hw h nx => by
  rw [dec_brbc hw h nx]
  rfl
theorem dec_ldx {w : Nat} (hw : w < 65536) (h : w &&& 65039 = 36876) (nx : Option Nat) : decode w nx = some (.load (w / 16 % 32) 26 (.plain 0)) := by
  rw [m65039 hw] at h
  have hs : (w / 512 == 0x49) = false := by rw [beq_eq_false_iff_ne]; omega
  rw [dec_mem (by omega)]
  repeat (first | refine neg_tr (by omega) ?_ | refine pos_tr (by omega) ?_)
  (first | rfl | (rw [hs]; done) | (rw [hs]; rfl))
theorem len_ldx : ∀ w, w < 65536 → w &&& 65039 = 36876 → ∀ nx, (decode w nx).map wordsOf = if two "ldx" = true then nx.map (fun _ => 2) else some 1 := fun w hw h nx => by
  rw [dec_ldx hw h nx]
  rfl
theorem dec_ldxp {w : Nat} (hw : w < 65536) (h : w &&& 65039 = 36877) (nx : Option Nat) : decode w nx = some (.load (w / 16 % 32) 26 .after) := by
  rw [m65039 hw] at h
  have hs : (w / 512 == 0x49) = false := by rw [beq_eq_false_iff_ne]; omega
  rw [dec_mem (by omega)]
  repeat (first | refine neg_tr (by omega) ?_ | refine pos_tr (by omega) ?_)
  (first | rfl | (rw [hs]; done) | (rw [hs]; rfl))
theorem len_ldxp : ∀ w, w < 65536 → w &&& 65039 = 36877 → ∀ nx, (decode w nx).map wordsOf = if two "ldxp" = true then nx.map (fun _ => 2) else some 1 := fun w hw h nx => by
  rw [dec_ldxp hw h nx]
  rfl
theorem dec_ldmx {w : Nat} (hw : w < 65536) (h : w &&& 65039 = 36878) (nx : Option Nat) : decode w nx = some (.load (w / 16 % 32) 26 .before) := by
  rw [m65039 hw] at h
  have hs : (w / 512 == 0x49) = false := by rw [beq_eq_false_iff_ne]; omega
  rw [dec_mem (by omega)]
  repeat (first | refine neg_tr (by omega) ?_ | refine pos_tr (by omega) ?_)
  (first | rfl | (rw [hs]; done) | (rw [hs]; rfl))
theorem len_ldmx : ∀ w, w < 65536 → w &&& 65039 = 36878 → ∀ nx, (decode w nx).map wordsOf = if two "ldmx" = true then nx.map (fun _ => 2) else some 1 := fun w hw h nx => by
  rw [dec_ldmx hw h nx]
  rfl
theorem dec_ldyp {w : Nat} (hw : w < 65536) (h : w &&& 65039 = 36873) (nx : Option Nat) : decode w nx = some (.load (w / 16 % 32) 28 .after) := by
  rw [m65039 hw] at h
  have hs : (w / 512 == 0x49) = false := by rw [beq_eq_false_iff_ne]; omega
  rw [dec_mem (by omega)]
  repeat (first | refine neg_tr (by omega) ?_ | refine pos_tr (by omega) ?_)
  (first | rfl | (rw [hs]; done) | (rw [hs]; rfl))
theorem len_ldyp : ∀ w, w < 65536 → w &&& 65039 = 36873 → ∀ nx, (decode w nx).map wordsOf = if two "ldyp" = true then nx.map (fun _ => 2) else some 1 := fun w hw h nx => by
  rw [dec_ldyp hw h nx]
  rfl
theorem dec_ldmy {w : Nat} (hw : w < 65536) (h : w &&& 65039 = 36874) (nx : Option Nat) : decode w nx = some (.load (w / 16 % 32) 28 .before) := by
  rw [m65039 hw] at h
  have hs : (w / 512 == 0x49) = false := by rw [beq_eq_false_iff_ne]; omega
  rw [dec_mem (by omega)]
  repeat (first | refine neg_tr (by omega) ?_ | refine pos_tr (by omega) ?_)
  (first | rfl | (rw [hs]; done) | (rw [hs]; rfl))
theorem len_ldmy : ∀ w, w < 65536 → w &&& 65039 = 36874 → ∀ nx, (decode w nx).map wordsOf = if two "ldmy" = true then nx.map (fun _ => 2) else some 1 := fun w hw h nx => by
  rw [dec_ldmy hw h nx]
  rfl
theorem dec_ldzp {w : Nat} (hw : w < 65536) (h : w &&& 65039 = 36865) (nx : Option Nat) : decode w nx = some (.load (w / 16 % 32) 30 .after) := by
  rw [m65039 hw] at h
  have hs : (w / 512 == 0x49) = false := by rw [beq_eq_false_iff_ne]; omega
  rw [dec_mem (by omega)]
  repeat (first | refine neg_tr (by omega) ?_ | refine pos_tr (by omega) ?_)
  (first | rfl | (rw [hs]; done) | (rw [hs]; rfl))
theorem len_ldzp : ∀ w, w < 65536 → w &&& 65039 = 36865 → ∀ nx, (decode w nx).map wordsOf = if two "ldzp" = true then nx.map (fun _ => 2) else some 1 := fun w hw h nx => by
  rw [dec_ldzp hw h nx]
  rfl
theorem dec_ldmz {w : Nat} (hw : w < 65536) (h : w &&& 65039 = 36866) (nx : Option Nat) : decode w nx = some (.load (w / 16 % 32) 30 .before) := by
  rw [m65039 hw] at h
  have hs : (w / 512 == 0x49) = false := by rw [beq_eq_false_iff_ne]; omega
  rw [dec_mem (by omega)]
  repeat (first | refine neg_tr (by omega) ?_ | refine pos_tr (by omega) ?_)
  (first | rfl | (rw [hs]; done) | (rw [hs]; rfl))
theorem len_ldmz : ∀ w, w < 65536 → w &&& 65039 = 36866 → ∀ nx, (decode w nx).map wordsOf = if two "ldmz" = true then nx.map (fun _ => 2) else some 1 := fun w hw h nx => by
  rw [dec_ldmz hw h nx]
  rfl
theorem dec_lddy {w : Nat} (hw : w < 65536) (h : w &&& 53768 = 32776) (nx : Option Nat) : decode w nx = some (.load (w / 16 % 32) 28 (.plain (w % 8 + 8 * (w / 1024 % 4) + 32 * (w / 8192 % 2)))) := by
  rw [m53768 hw] at h
  repeat (first | refine neg_tr (by omega) ?_ | refine pos_tr (by omega) ?_)
  exact congrArg (fun p => some (Insn.load (w / 16 % 32) p _)) (if_pos (by omega))
theorem len_lddy : ∀ w, w < 65536 → w &&& 53768 = 32776 → ∀ nx, (decode w nx).map wordsOf = if two "lddy" = true then nx.map (fun _ => 2) else some 1 := fun w hw h nx => by
  rw [dec_lddy hw h nx]
  rfl
theorem dec_lddz {w : Nat} (hw : w < 65536) (h : w &&& 53768 = 32768) (nx : Option Nat) : decode w nx = some (.load (w / 16 % 32) 30 (.plain (w % 8 + 8 * (w / 1024 % 4) + 32 * (w / 8192 % 2)))) := by
  rw [m53768 hw] at h
  repeat (first | refine neg_tr (by omega) ?_ | refine pos_tr (by omega) ?_)
  exact congrArg (fun p => some (Insn.load (w / 16 % 32) p _)) (if_neg (by omega))
theorem len_lddz : ∀ w, w < 65536 → w &&& 53768 = 32768 → ∀ nx, (decode w nx).map wordsOf = if two "lddz" = true then nx.map (fun _ => 2) else some 1 := fun w hw h nx => by
  rw [dec_lddz hw h nx]
  rfl
theorem dec_stx {w : Nat} (hw : w < 65536) (h : w &&& 65039 = 37388) (nx : Option Nat) : decode w nx = some (.store (w / 16 % 32) 26 (.plain 0)) := by
  rw [m65039 hw] at h
  have hs : (w / 512 == 0x49) = true := by rw [beq_iff_eq]; omega
  rw [dec_mem (by omega)]
  repeat (first | refine neg_tr (by omega) ?_ | refine pos_tr (by omega) ?_)
  (first | rfl | (rw [hs]; done) | (rw [hs]; rfl))
theorem len_stx : ∀ w, w < 65536 → w &&& 65039 = 37388 → ∀ nx, (decode w nx).map wordsOf = if two "stx" = true then nx.map (fun _ => 2) else some 1 := fun w hw h nx => by
  rw [dec_stx hw h nx]
  rfl
theorem dec_stxp {w : Nat} (hw : w < 65536) (h : w &&& 65039 = 37389) (nx : Option Nat) : decode w nx = some (.store (w / 16 % 32) 26 .after) := by
  rw [m65039 hw] at h
  have hs : (w / 512 == 0x49) = true := by rw [beq_iff_eq]; omega
  rw [dec_mem (by omega)]
  repeat (first | refine neg_tr (by omega) ?_ | refine pos_tr (by omega) ?_)
  (first | rfl | (rw [hs]; done) | (rw [hs]; rfl))
theorem len_stxp : ∀ w, w < 65536 → w &&& 65039 = 37389 → ∀ nx, (decode w nx).map wordsOf = if two "stxp" = true then nx.map (fun _ => 2) else some 1 := fun w hw h nx => by
  rw [dec_stxp hw h nx]
  rfl
theorem dec_stmx {w : Nat} (hw : w < 65536) (h : w &&& 65039 = 37390) (nx : Option Nat) : decode w nx = some (.store (w / 16 % 32) 26 .before) := by
  rw [m65039 hw] at h
  have hs : (w / 512 == 0x49) = true := by rw [beq_iff_eq]; omega
  rw [dec_mem (by omega)]
  repeat (first | refine neg_tr (by omega) ?_ | refine pos_tr (by omega) ?_)
  (first | rfl | (rw [hs]; done) | (rw [hs]; rfl))
theorem len_stmx : ∀ w, w < 65536 → w &&& 65039 = 37390 → ∀ nx, (decode w nx).map wordsOf = if two "stmx" = true then nx.map (fun _ => 2) else some 1 := fun w hw h nx => by
  rw [dec_stmx hw h nx]
  rfl
theorem dec_styp {w : Nat} (hw : w < 65536) (h : w &&& 65039 = 37385) (nx : Option Nat) : decode w nx = some (.store (w / 16 % 32) 28 .after) := by
  rw [m65039 hw] at h
  have hs : (w / 512 == 0x49) = true := by rw [beq_iff_eq]; omega
  rw [dec_mem (by omega)]
  repeat (first | refine neg_tr (by omega) ?_ | refine pos_tr (by omega) ?_)
  (first | rfl | (rw [hs]; done) | (rw [hs]; rfl))
theorem len_styp : ∀ w, w < 65536 → w &&& 65039 = 37385 → ∀ nx, (decode w nx).map wordsOf = if two "styp" = true then nx.map (fun _ => 2) else some 1 := fun w hw h nx => by
  rw [dec_styp hw h nx]
  rfl
theorem dec_stmy {w : Nat} (hw : w < 65536) (h : w &&& 65039 = 37386) (nx : Option Nat) : decode w nx = some (.store (w / 16 % 32) 28 .before) := by
  rw [m65039 hw] at h
  have hs : (w / 512 == 0x49) = true := by rw [beq_iff_eq]; omega
  rw [dec_mem (by omega)]
  repeat (first | refine neg_tr (by omega) ?_ | refine pos_tr (by omega) ?_)
  (first | rfl | (rw [hs]; done) | (rw [hs]; rfl))
theorem len_stmy : ∀ w, w < 65536 → w &&& 65039 = 37386 → ∀ nx, (decode w nx).map wordsOf = if two "stmy" = true then nx.map (fun _ => 2) else some 1 := fun w hw h nx => by
  rw [dec_stmy hw h nx]
  rfl
theorem dec_stzp {w : Nat} (hw : w < 65536) (h : w &&& 65039 = 37377) (nx : Option Nat) : decode w nx = some (.store (w / 16 % 32) 30 .after) := by
  rw [m65039 hw] at h
  have hs : (w / 512 == 0x49) = true := by rw [beq_iff_eq]; omega
  rw [dec_mem (by omega)]
  repeat (first | refine neg_tr (by omega) ?_ | refine pos_tr (by omega) ?_)
  (first | rfl | (rw [hs]; done) | (rw [hs]; rfl))
theorem len_stzp : ∀ w, w < 65536 → w &&& 65039 = 37377 → ∀ nx, (decode w nx).map wordsOf = if two "stzp" = true then nx.map (fun _ => 2) else some 1 := fun w hw h nx => by
  rw [dec_stzp hw h nx]
  rfl
theorem dec_stmz {w : Nat} (hw : w < 65536) (h : w &&& 65039 = 37378) (nx : Option Nat) : decode w nx = some (.store (w / 16 % 32) 30 .before) := by
  rw [m65039 hw] at h
  have hs : (w / 512 == 0x49) = true := by rw [beq_iff_eq]; omega
  rw [dec_mem (by omega)]
  repeat (first | refine neg_tr (by omega) ?_ | refine pos_tr (by omega) ?_)
  (first | rfl | (rw [hs]; done) | (rw [hs]; rfl))
theorem len_stmz : ∀ w, w < 65536 → w &&& 65039 = 37378 → ∀ nx, (decode w nx).map wordsOf = if two "stmz" = true then nx.map (fun _ => 2) else some 1 := fun w hw h nx => by
  rw [dec_stmz hw h nx]
  rfl
theorem dec_stdy {w : Nat} (hw : w < 65536) (h : w &&& 53768 = 33288) (nx : Option Nat) : decode w nx = some (.store (w / 16 % 32) 28 (.plain (w % 8 + 8 * (w / 1024 % 4) + 32 * (w / 8192 % 2)))) := by
  rw [m53768 hw] at h
  repeat (first | refine neg_tr (by omega) ?_ | refine pos_tr (by omega) ?_)
  exact congrArg (fun p => some (Insn.store (w / 16 % 32) p _)) (if_pos (by omega))
theorem len_stdy : ∀ w, w < 65536 → w &&& 53768 = 33288 → ∀ nx, (decode w nx).map wordsOf = if two "stdy" = true then nx.map (fun _ => 2) else some 1 := fun w hw h nx => by
  rw [dec_stdy hw h nx]
  rfl
theorem dec_stdz {w : Nat} (hw : w < 65536) (h : w &&& 53768 = 33280) (nx : Option Nat) : decode w nx = some (.store (w / 16 % 32) 30 (.plain (w % 8 + 8 * (w / 1024 % 4) + 32 * (w / 8192 % 2)))) := by
  rw [m53768 hw] at h
  repeat (first | refine neg_tr (by omega) ?_ | refine pos_tr (by omega) ?_)
  exact congrArg (fun p => some (Insn.store (w / 16 % 32) p _)) (if_neg (by omega))
theorem len_stdz : ∀ w, w < 65536 → w &&& 53768 = 33280 → ∀ nx, (decode w nx).map wordsOf = if two "stdz" = true then nx.map (fun _ => 2) else some 1 := fun w hw h nx => by
  rw [dec_stdz hw h nx]
  rfl
theorem dec_lds {w : Nat} (hw : w < 65536) (h : w &&& 65039 = 36864) (nx : Option Nat) : decode w nx = nx.map fun y => (.lds (w / 16 % 32) y : Insn) := by
  rw [m65039 hw] at h
  have hs : (w / 512 == 0x49) = false := by rw [beq_eq_false_iff_ne]; omega
  rw [dec_mem (by omega)]
  repeat (first | refine neg_tr (by omega) ?_ | refine pos_tr (by omega) ?_)
  (first | rfl | (rw [hs]; done) | (rw [hs]; rfl))
theorem len_lds : ∀ w, w < 65536 → w &&& 65039 = 36864 → ∀ nx, (decode w nx).map wordsOf = if two "lds" = true then nx.map (fun _ => 2) else some 1 := fun w hw h nx => by
  rw [dec_lds hw h nx]
  cases nx <;> rfl
theorem dec_sts {w : Nat} (hw : w < 65536) (h : w &&& 65039 = 37376) (nx : Option Nat) : decode w nx = nx.map fun y => (.sts (w / 16 % 32) y : Insn) := by
  rw [m65039 hw] at h
  have hs : (w / 512 == 0x49) = true := by rw [beq_iff_eq]; omega
  rw [dec_mem (by omega)]
  repeat (first | refine neg_tr (by omega) ?_ | refine pos_tr (by omega) ?_)
  (first | rfl | (rw [hs]; done) | (rw [hs]; rfl))
theorem len_sts : ∀ w, w < 65536 → w &&& 65039 = 37376 → ∀ nx, (decode w nx).map wordsOf = if two "sts" = true then nx.map (fun _ => 2) else some 1 := fun w hw h nx => by
  rw [dec_sts hw h nx]
  cases nx <;> rfl
theorem dec_lpm {w : Nat} (hw : w < 65536) (h : w &&& 65535 = 38344) (nx : Option Nat) : decode w nx = some (.lpm 0 false) := by
  rw [m65535 hw] at h
  repeat (first | refine neg_tr (by omega) ?_ | refine pos_tr (by omega) ?_)
  rfl
theorem len_lpm : ∀ w, w < 65536 → w &&& 65535 = 38344 → ∀ nx, (decode w nx).map wordsOf = if two "lpm" = true then nx.map (fun _ => 2) else some 1 := fun w hw h nx => by
  rw [dec_lpm hw h nx]
  rfl
theorem dec_lpmz {w : Nat} (hw : w < 65536) (h : w &&& 65039 = 36868) (nx : Option Nat) : decode w nx = some (.lpm (w / 16 % 32) false) := by
  rw [m65039 hw] at h
  have hs : (w / 512 == 0x49) = false := by rw [beq_eq_false_iff_ne]; omega
  rw [dec_mem (by omega)]
  repeat (first | refine neg_tr (by omega) ?_ | refine pos_tr (by omega) ?_ | refine pos_tr ⟨by omega, hs⟩ ?_)
  rfl
theorem len_lpmz : ∀ w, w < 65536 → w &&& 65039 = 36868 → ∀ nx, (decode w nx).map wordsOf = if two "lpmz" = true then nx.map (fun _ => 2) else some 1 := fun w hw h nx => by
  rw [dec_lpmz hw h nx]
  rfl
theorem dec_lpmzp {w : Nat} (hw : w < 65536) (h : w &&& 65039 = 36869) (nx : Option Nat) : decode w nx = some (.lpm (w / 16 % 32) true) := by
  rw [m65039 hw] at h
  have hs : (w / 512 == 0x49) = false := by rw [beq_eq_false_iff_ne]; omega
  rw [dec_mem (by omega)]
  repeat (first | refine neg_tr (by omega) ?_ | refine pos_tr (by omega) ?_ | refine pos_tr ⟨by omega, hs⟩ ?_)
  rfl
theorem len_lpmzp : ∀ w, w < 65536 → w &&& 65039 = 36869 → ∀ nx, (decode w nx).map wordsOf = if two "lpmzp" = true then nx.map (fun _ => 2) else some 1 := fun w hw h nx => by
  rw [dec_lpmzp hw h nx]
  rfl
theorem dec_push {w : Nat} (hw : w < 65536) (h : w &&& 65039 = 37391) (nx : Option Nat) : decode w nx = some (.push (w / 16 % 32)) := by
  rw [m65039 hw] at h
  have hs : (w / 512 == 0x49) = true := by rw [beq_iff_eq]; omega
  rw [dec_mem (by omega)]
  repeat (first | refine neg_tr (by omega) ?_ | refine pos_tr (by omega) ?_)
  (first | rfl | (rw [hs]; done) | (rw [hs]; rfl))
theorem len_push : ∀ w, w < 65536 → w &&& 65039 = 37391 → ∀ nx, (decode w nx).map wordsOf = if two "push" = true then nx.map (fun _ => 2) else some 1 := fun w hw h nx => by
  rw [dec_push hw h nx]
  rfl
theorem dec_pop {w : Nat} (hw : w < 65536) (h : w &&& 65039 = 36879) (nx : Option Nat) : decode w nx = some (.pop (w / 16 % 32)) := by
  rw [m65039 hw] at h
  have hs : (w / 512 == 0x49) = false := by rw [beq_eq_false_iff_ne]; omega
  rw [dec_mem (by omega)]
  repeat (first | refine neg_tr (by omega) ?_ | refine pos_tr (by omega) ?_)
  (first | rfl | (rw [hs]; done) | (rw [hs]; rfl))
theorem len_pop : ∀ w, w < 65536 → w &&& 65039 = 36879 → ∀ nx, (decode w nx).map wordsOf = if two "pop" = true then nx.map (fun _ => 2) else some 1 := fun w hw h nx => by
  rw [dec_pop hw h nx]
  rfl
theorem dec_in {w : Nat} (hw : w < 65536) (h : w &&& 63488 = 45056) (nx : Option Nat) : decode w nx = some (.in_ (w / 16 % 32) (w % 16 + 16 * (w / 512 % 4))) := by
  rw [m63488 hw] at h
  rw [dec_hi (by omega) (by omega) (by omega)]
  repeat (first | refine neg_tr (by omega) ?_ | refine pos_tr (by omega) ?_)
  rfl
theorem len_in : ∀ w, w < 65536 → w &&& 63488 = 45056 → ∀ nx, (decode w nx).map wordsOf = if two "in" = true then nx.map (fun _ => 2) else some 1 := fun w hw h nx => by
  rw [dec_in hw h nx]
  rfl
theorem dec_out {w : Nat} (hw : w < 65536) (h : w &&& 63488 = 47104) (nx : Option Nat) : decode w nx = some (.out (w / 16 % 32) (w % 16 + 16 * (w / 512 % 4))) := by
  rw [m63488 hw] at h
  rw [dec_hi (by omega) (by omega) (by omega)]
  repeat (first | refine neg_tr (by omega) ?_ | refine pos_tr (by omega) ?_)
  rfl
theorem len_out : ∀ w, w < 65536 → w &&& 63488 = 47104 → ∀ nx, (decode w nx).map wordsOf = if two "out" = true then nx.map (fun _ => 2) else some 1 := fun w hw h nx => by
  rw [dec_out hw h nx]
  rfl
theorem dec_sbi {w : Nat} (hw : w < 65536) (h : w &&& 65280 = 39424) (nx : Option Nat) : decode w nx = some (.port (w / 8 % 32) (w % 8) true) := by
  rw [m65280 hw] at h
  rw [dec_hi (by omega) (by omega) (by omega)]
  repeat (first | refine neg_tr (by omega) ?_ | refine pos_tr (by omega) ?_)
  rfl
theorem len_sbi : ∀ w, w < 65536 → w &&& 65280 = 39424 → ∀ nx, (decode w nx).map wordsOf = if two "sbi" = true then nx.map (fun _ => 2) else some 1 := fun w hw h nx => by
  rw [dec_sbi hw h nx]
  rfl
theorem dec_cbi {w : Nat} (hw : w < 65536) (h : w &&& 65280 = 38912) (nx : Option Nat) : decode w nx = some (.port (w / 8 % 32) (w % 8) false) := by
  rw [m65280 hw] at h
  rw [dec_hi (by omega) (by omega) (by omega)]
  repeat (first | refine neg_tr (by omega) ?_ | refine pos_tr (by omega) ?_)
  rfl
theorem len_cbi : ∀ w, w < 65536 → w &&& 65280 = 38912 → ∀ nx, (decode w nx).map wordsOf = if two "cbi" = true then nx.map (fun _ => 2) else some 1 := fun w hw h nx => by
  rw [dec_cbi hw h nx]
  rfl
theorem dec_sbis {w : Nat} (hw : w < 65536) (h : w &&& 65280 = 39680) (nx : Option Nat) : decode w nx = some (.skipPort (w / 8 % 32) (w % 8) true) := by
  rw [m65280 hw] at h
  rw [dec_hi (by omega) (by omega) (by omega)]
  repeat (first | refine neg_tr (by omega) ?_ | refine pos_tr (by omega) ?_)
  rfl
theorem len_sbis : ∀ w, w < 65536 → w &&& 65280 = 39680 → ∀ nx, (decode w nx).map wordsOf = if two "sbis" = true then nx.map (fun _ => 2) else some 1 := fun w hw h nx => by
  rw [dec_sbis hw h nx]
  rfl
theorem dec_sbic {w : Nat} (hw : w < 65536) (h : w &&& 65280 = 39168) (nx : Option Nat) : decode w nx = some (.skipPort (w / 8 % 32) (w % 8) false) := by
  rw [m65280 hw] at h
  rw [dec_hi (by omega) (by omega) (by omega)]
  repeat (first | refine neg_tr (by omega) ?_ | refine pos_tr (by omega) ?_)
  rfl
theorem len_sbic : ∀ w, w < 65536 → w &&& 65280 = 39168 → ∀ nx, (decode w nx).map wordsOf = if two "sbic" = true then nx.map (fun _ => 2) else some 1 := fun w hw h nx => by
  rw [dec_sbic hw h nx]
  rfl
theorem dec_sbrs {w : Nat} (hw : w < 65536) (h : w &&& 65032 = 65024) (nx : Option Nat) : decode w nx = some (.skipReg (w / 16 % 32) (w % 8) true) := by
  rw [m65032 hw] at h
  rw [dec_hi (by omega) (by omega) (by omega)]
  repeat (first | refine neg_tr (by omega) ?_ | refine pos_tr (by omega) ?_)
  rfl
theorem len_sbrs : ∀ w, w < 65536 → w &&& 65032 = 65024 → ∀ nx, (decode w nx).map wordsOf = if two "sbrs" = true then nx.map (fun _ => 2) else some 1 := fun w hw h nx => by
  rw [dec_sbrs hw h nx]
  rfl
theorem dec_sbrc {w : Nat} (hw : w < 65536) (h : w &&& 65032 = 64512) (nx : Option Nat) : decode w nx = some (.skipReg (w / 16 % 32) (w % 8) false) := by
  rw [m65032 hw] at h
  rw [dec_hi (by omega) (by omega) (by omega)]
  repeat (first | refine neg_tr (by omega) ?_ | refine pos_tr (by omega) ?_)
  rfl
theorem len_sbrc : ∀ w, w < 65536 → w &&& 65032 = 64512 → ∀ nx, (decode w nx).map wordsOf = if two "sbrc" = true then nx.map (fun _ => 2) else some 1 := fun w hw h nx => by
  rw [dec_sbrc hw h nx]
  rfl
theorem dec_bst {w : Nat} (hw : w < 65536) (h : w &&& 65032 = 64000) (nx : Option Nat) : decode w nx = some (.bst (w / 16 % 32) (w % 8)) := by
  rw [m65032 hw] at h
  rw [dec_hi (by omega) (by omega) (by omega)]
  repeat (first | refine neg_tr (by omega) ?_ | refine pos_tr (by omega) ?_)
  rfl
theorem len_bst : ∀ w, w < 65536 → w &&& 65032 = 64000 → ∀ nx, (decode w nx).map wordsOf = if two "bst" = true then nx.map (fun _ => 2) else some 1 := fun w hw h nx => by
  rw [dec_bst hw h nx]
  rfl
theorem dec_bld {w : Nat} (hw : w < 65536) (h : w &&& 65032 = 63488) (nx : Option Nat) : decode w nx = some (.bld (w / 16 % 32) (w % 8)) := by
  rw [m65032 hw] at h
  rw [dec_hi (by omega) (by omega) (by omega)]
  repeat (first | refine neg_tr (by omega) ?_ | refine pos_tr (by omega) ?_)
  rfl
theorem len_bld : ∀ w, w < 65536 → w &&& 65032 = 63488 → ∀ nx, (decode w nx).map wordsOf = if two "bld" = true then nx.map (fun _ => 2) else some 1 := fun w hw h nx => by
  rw [dec_bld hw h nx]
  rfl
theorem dec_bset {w : Nat} (hw : w < 65536) (h : w &&& 65423 = 37896) (nx : Option Nat) : decode w nx = some (.flag (w / 16 % 8) true) := by
  rw [m65423 hw] at h
  have hs : (decide (w / 128 % 2 = 0)) = true := by rw [decide_eq_true_eq]; omega
  rw [dec_one (by omega) (by omega) (by omega) (by omega) (by omega) (by omega) (by omega) (by omega)]
  repeat (first | refine neg_tr (by omega) ?_ | refine pos_tr (by omega) ?_)
  (first | rfl | (rw [hs]; done) | (rw [hs]; rfl))
theorem len_bset : ∀ w, w < 65536 → w &&& 65423 = 37896 → ∀ nx, (decode w nx).map wordsOf = if two "bset" = true then nx.map (fun _ => 2) else some 1 := fun w hw h nx => by
  rw [dec_bset hw h nx]
  rfl
theorem dec_bclr {w : Nat} (hw : w < 65536) (h : w &&& 65423 = 38024) (nx : Option Nat) : decode w nx = some (.flag (w / 16 % 8) false) := by
  rw [m65423 hw] at h
  have hs : (decide (w / 128 % 2 = 0)) = false := by rw [decide_eq_false_iff_not]; omega
  rw [dec_one (by omega) (by omega) (by omega) (by omega) (by omega) (by omega) (by omega) (by omega)]
  repeat (first | refine neg_tr (by omega) ?_ | refine pos_tr (by omega) ?_)
  (first | rfl | (rw [hs]; done) | (rw [hs]; rfl))
theorem len_bclr : ∀ w, w < 65536 → w &&& 65423 = 38024 → ∀ nx, (decode w nx).map wordsOf = if two "bclr" = true then nx.map (fun _ => 2) else some 1 := fun w hw h nx => by
  rw [dec_bclr hw h nx]
  rfl
theorem dec_nop {w : Nat} (hw : w < 65536) (h : w &&& 65535 = 0) (nx : Option Nat) : decode w nx = some (.nop) := by
  rw [m65535 hw] at h
  repeat (first | refine neg_tr (by omega) ?_ | refine pos_tr (by omega) ?_)
  rfl
theorem len_nop : ∀ w, w < 65536 → w &&& 65535 = 0 → ∀ nx, (decode w nx).map wordsOf = if two "nop" = true then nx.map (fun _ => 2) else some 1 := fun w hw h nx => by
  rw [dec_nop hw h nx]
  rfl
theorem dec_wdr {w : Nat} (hw : w < 65536) (h : w &&& 65535 = 38312) (nx : Option Nat) : decode w nx = some (.nop) := by
  rw [m65535 hw] at h
  repeat (first | refine neg_tr (by omega) ?_ | refine pos_tr (by omega) ?_)
  rfl
theorem len_wdr : ∀ w, w < 65536 → w &&& 65535 = 38312 → ∀ nx, (decode w nx).map wordsOf = if two "wdr" = true then nx.map (fun _ => 2) else some 1 := fun w hw h nx => by
  rw [dec_wdr hw h nx]
  rfl
theorem dec_sleep {w : Nat} (hw : w < 65536) (h : w &&& 65535 = 38280) (nx : Option Nat) : decode w nx = some (.halt_) := by
  rw [m65535 hw] at h
  repeat (first | refine neg_tr (by omega) ?_ | refine pos_tr (by omega) ?_)
  rfl
theorem len_sleep : ∀ w, w < 65536 → w &&& 65535 = 38280 → ∀ nx, (decode w nx).map wordsOf = if two "sleep" = true then nx.map (fun _ => 2) else some 1 := fun w hw h nx => by
  rw [dec_sleep hw h nx]
  rfl
theorem dec_break {w : Nat} (hw : w < 65536) (h : w &&& 65535 = 38296) (nx : Option Nat) : decode w nx = some (.halt_) := by
  rw [m65535 hw] at h
  repeat (first | refine neg_tr (by omega) ?_ | refine pos_tr (by omega) ?_)
  rfl
theorem len_break : ∀ w, w < 65536 → w &&& 65535 = 38296 → ∀ nx, (decode w nx).map wordsOf = if two "break" = true then nx.map (fun _ => 2) else some 1 := fun w hw h nx => by
  rw [dec_break hw h nx]
  rfl
def LenOk (e : Nat × Nat × String) : Prop := ∀ w, w < 65536 → w &&& e.1 = e.2.1 → ∀ nx, (decode w nx).map wordsOf = if two e.2.2 = true then nx.map (fun _ => 2) else some 1
theorem len_all : ∀ e ∈ tab, LenOk e := by
  unfold tab
  exact List.forall_mem_cons.mpr ⟨len_add, List.forall_mem_cons.mpr ⟨len_adc, List.forall_mem_cons.mpr ⟨len_sub, List.forall_mem_cons.mpr ⟨len_sbc, List.forall_mem_cons.mpr ⟨len_cp, List.forall_mem_cons.mpr ⟨len_cpc, List.forall_mem_cons.mpr ⟨len_cpse, List.forall_mem_cons.mpr ⟨len_and, List.forall_mem_cons.mpr ⟨len_or, List.forall_mem_cons.mpr ⟨len_eor, List.forall_mem_cons.mpr ⟨len_mov, List.forall_mem_cons.mpr ⟨len_ldi, List.forall_mem_cons.mpr ⟨len_subi, List.forall_mem_cons.mpr ⟨len_sbci, List.forall_mem_cons.mpr ⟨len_cpi, List.forall_mem_cons.mpr ⟨len_andi, List.forall_mem_cons.mpr ⟨len_ori, List.forall_mem_cons.mpr ⟨len_com, List.forall_mem_cons.mpr ⟨len_neg, List.forall_mem_cons.mpr ⟨len_swap, List.forall_mem_cons.mpr ⟨len_inc, List.forall_mem_cons.mpr ⟨len_asr, List.forall_mem_cons.mpr ⟨len_lsr, List.forall_mem_cons.mpr ⟨len_ror, List.forall_mem_cons.mpr ⟨len_dec, List.forall_mem_cons.mpr ⟨len_adiw, List.forall_mem_cons.mpr ⟨len_sbiw, List.forall_mem_cons.mpr ⟨len_mul, List.forall_mem_cons.mpr ⟨len_muls, List.forall_mem_cons.mpr ⟨len_mulsu, List.forall_mem_cons.mpr ⟨len_movw, List.forall_mem_cons.mpr ⟨len_rjmp, List.forall_mem_cons.mpr ⟨len_rcall, List.forall_mem_cons.mpr ⟨len_jmp, List.forall_mem_cons.mpr ⟨len_call, List.forall_mem_cons.mpr ⟨len_ijmp, List.forall_mem_cons.mpr ⟨len_icall, List.forall_mem_cons.mpr ⟨len_ret, List.forall_mem_cons.mpr ⟨len_reti, List.forall_mem_cons.mpr ⟨len_brbs, List.forall_mem_cons.mpr ⟨len_brbc, List.forall_mem_cons.mpr ⟨len_ldx, List.forall_mem_cons.mpr ⟨len_ldxp, List.forall_mem_cons.mpr ⟨len_ldmx, List.forall_mem_cons.mpr ⟨len_ldyp, List.forall_mem_cons.mpr ⟨len_ldmy, List.forall_mem_cons.mpr ⟨len_ldzp, List.forall_mem_cons.mpr ⟨len_ldmz, List.forall_mem_cons.mpr ⟨len_lddy, List.forall_mem_cons.mpr ⟨len_lddz, List.forall_mem_cons.mpr ⟨len_stx, List.forall_mem_cons.mpr ⟨len_stxp, List.forall_mem_cons.mpr ⟨len_stmx, List.forall_mem_cons.mpr ⟨len_styp, List.forall_mem_cons.mpr ⟨len_stmy, List.forall_mem_cons.mpr ⟨len_stzp, List.forall_mem_cons.mpr ⟨len_stmz, List.forall_mem_cons.mpr ⟨len_stdy, List.forall_mem_cons.mpr ⟨len_stdz, List.forall_mem_cons.mpr ⟨len_lds, List.forall_mem_cons.mpr ⟨len_sts, List.forall_mem_cons.mpr ⟨len_lpm, List.forall_mem_cons.mpr ⟨len_lpmz, List.forall_mem_cons.mpr ⟨len_lpmzp, List.forall_mem_cons.mpr ⟨len_push, List.forall_mem_cons.mpr ⟨len_pop, List.forall_mem_cons.mpr ⟨len_in, List.forall_mem_cons.mpr ⟨len_out, List.forall_mem_cons.mpr ⟨len_sbi, List.forall_mem_cons.mpr ⟨len_cbi, List.forall_mem_cons.mpr ⟨len_sbis, List.forall_mem_cons.mpr ⟨len_sbic, List.forall_mem_cons.mpr ⟨len_sbrs, List.forall_mem_cons.mpr ⟨len_sbrc, List.forall_mem_cons.mpr ⟨len_bst, List.forall_mem_cons.mpr ⟨len_bld, List.forall_mem_cons.mpr ⟨len_bset, List.forall_mem_cons.mpr ⟨len_bclr, List.forall_mem_cons.mpr ⟨len_nop, List.forall_mem_cons.mpr ⟨len_wdr, List.forall_mem_cons.mpr ⟨len_sleep, List.forall_mem_cons.mpr ⟨len_break, (fun _ h => nomatch h)⟩⟩⟩⟩⟩⟩⟩⟩⟩⟩⟩⟩⟩⟩⟩⟩⟩⟩⟩⟩⟩⟩⟩⟩⟩⟩⟩⟩⟩⟩⟩⟩⟩⟩⟩⟩⟩⟩⟩⟩⟩⟩⟩⟩⟩⟩⟩⟩⟩⟩⟩⟩⟩⟩⟩⟩⟩⟩⟩⟩⟩⟩⟩⟩⟩⟩⟩⟩⟩⟩⟩⟩⟩⟩⟩⟩⟩⟩⟩⟩⟩⟩
/-- where no entry fits there is no instruction -/
theorem dec_none {w : Nat} (hw : w < 65536) (H : ∀ e ∈ tab, ¬ w &&& e.1 = e.2.1) (nx : Option Nat) : decode w nx = none := by
  unfold decode
  dsimp only
  by_cases c : w = 0 ∨ w = 0x95A8
  · exfalso
    rcases c with c | c
    · exact H (65535, 0, "nop") (by decide) (by show (w &&& 65535) = 0; rw [m65535 hw]; omega)
    · exact H (65535, 38312, "wdr") (by decide) (by show (w &&& 65535) = 38312; rw [m65535 hw]; omega)
  refine neg_tr c ?_
  clear c
  by_cases c : w = 0x9588 ∨ w = 0x9598
  · exfalso
    rcases c with c | c
    · exact H (65535, 38280, "sleep") (by decide) (by show (w &&& 65535) = 38280; rw [m65535 hw]; omega)
    · exact H (65535, 38296, "break") (by decide) (by show (w &&& 65535) = 38296; rw [m65535 hw]; omega)
  refine neg_tr c ?_
  clear c
  by_cases c : w = 0x9409
  · exfalso
    exact H (65535, 37897, "ijmp") (by decide) (by show (w &&& 65535) = 37897; rw [m65535 hw]; omega)
  refine neg_tr c ?_
  clear c
  by_cases c : w = 0x9509
  · exfalso
    exact H (65535, 38153, "icall") (by decide) (by show (w &&& 65535) = 38153; rw [m65535 hw]; omega)
  refine neg_tr c ?_
  clear c
  by_cases c : w = 0x9508
  · exfalso
    exact H (65535, 38152, "ret") (by decide) (by show (w &&& 65535) = 38152; rw [m65535 hw]; omega)
  refine neg_tr c ?_
  clear c
  by_cases c : w = 0x9518
  · exfalso
    exact H (65535, 38168, "reti") (by decide) (by show (w &&& 65535) = 38168; rw [m65535 hw]; omega)
  refine neg_tr c ?_
  clear c
  by_cases c : w = 0x95C8
  · exfalso
    exact H (65535, 38344, "lpm") (by decide) (by show (w &&& 65535) = 38344; rw [m65535 hw]; omega)
  refine neg_tr c ?_
  clear c
  by_cases c : w / 256 = 1
  · exfalso
    exact H (65280, 256, "movw") (by decide) (by show (w &&& 65280) = 256; rw [m65280 hw]; omega)
  refine neg_tr c ?_
  clear c
  by_cases c : w / 256 = 2
  · exfalso
    exact H (65280, 512, "muls") (by decide) (by show (w &&& 65280) = 512; rw [m65280 hw]; omega)
  refine neg_tr c ?_
  clear c
  by_cases c : w / 128 = 6 ∧ w / 8 % 2 = 0
  · exfalso
    exact H (65416, 768, "mulsu") (by decide) (by show (w &&& 65416) = 768; rw [m65416 hw]; omega)
  refine neg_tr c ?_
  clear c
  by_cases c : w / 1024 = 1
  · exfalso
    exact H (64512, 1024, "cpc") (by decide) (by show (w &&& 64512) = 1024; rw [m64512 hw]; omega)
  refine neg_tr c ?_
  clear c
  by_cases c : w / 1024 = 2
  · exfalso
    exact H (64512, 2048, "sbc") (by decide) (by show (w &&& 64512) = 2048; rw [m64512 hw]; omega)
  refine neg_tr c ?_
  clear c
  by_cases c : w / 1024 = 3
  · exfalso
    exact H (64512, 3072, "add") (by decide) (by show (w &&& 64512) = 3072; rw [m64512 hw]; omega)
  refine neg_tr c ?_
  clear c
  by_cases c : w / 1024 = 4
  · exfalso
    exact H (64512, 4096, "cpse") (by decide) (by show (w &&& 64512) = 4096; rw [m64512 hw]; omega)
  refine neg_tr c ?_
  clear c
  by_cases c : w / 1024 = 5
  · exfalso
    exact H (64512, 5120, "cp") (by decide) (by show (w &&& 64512) = 5120; rw [m64512 hw]; omega)
  refine neg_tr c ?_
  clear c
  by_cases c : w / 1024 = 6
  · exfalso
    exact H (64512, 6144, "sub") (by decide) (by show (w &&& 64512) = 6144; rw [m64512 hw]; omega)
  refine neg_tr c ?_
  clear c
  by_cases c : w / 1024 = 7
  · exfalso
    exact H (64512, 7168, "adc") (by decide) (by show (w &&& 64512) = 7168; rw [m64512 hw]; omega)
  refine neg_tr c ?_
  clear c
  by_cases c : w / 1024 = 8
  · exfalso
    exact H (64512, 8192, "and") (by decide) (by show (w &&& 64512) = 8192; rw [m64512 hw]; omega)
  refine neg_tr c ?_
  clear c
  by_cases c : w / 1024 = 9
  · exfalso
    exact H (64512, 9216, "eor") (by decide) (by show (w &&& 64512) = 9216; rw [m64512 hw]; omega)
  refine neg_tr c ?_
  clear c
  by_cases c : w / 1024 = 10
  · exfalso
    exact H (64512, 10240, "or") (by decide) (by show (w &&& 64512) = 10240; rw [m64512 hw]; omega)
  refine neg_tr c ?_
  clear c
  by_cases c : w / 1024 = 11
  · exfalso
    exact H (64512, 11264, "mov") (by decide) (by show (w &&& 64512) = 11264; rw [m64512 hw]; omega)
  refine neg_tr c ?_
  clear c
  by_cases c : w / 4096 = 3
  · exfalso
    exact H (61440, 12288, "cpi") (by decide) (by show (w &&& 61440) = 12288; rw [m61440 hw]; omega)
  refine neg_tr c ?_
  clear c
  by_cases c : w / 4096 = 4
  · exfalso
    exact H (61440, 16384, "sbci") (by decide) (by show (w &&& 61440) = 16384; rw [m61440 hw]; omega)
  refine neg_tr c ?_
  clear c
  by_cases c : w / 4096 = 5
  · exfalso
    exact H (61440, 20480, "subi") (by decide) (by show (w &&& 61440) = 20480; rw [m61440 hw]; omega)
  refine neg_tr c ?_
  clear c
  by_cases c : w / 4096 = 6
  · exfalso
    exact H (61440, 24576, "ori") (by decide) (by show (w &&& 61440) = 24576; rw [m61440 hw]; omega)
  refine neg_tr c ?_
  clear c
  by_cases c : w / 4096 = 7
  · exfalso
    exact H (61440, 28672, "andi") (by decide) (by show (w &&& 61440) = 28672; rw [m61440 hw]; omega)
  refine neg_tr c ?_
  clear c
  by_cases c : w / 4096 = 14
  · exfalso
    exact H (61440, 57344, "ldi") (by decide) (by show (w &&& 61440) = 57344; rw [m61440 hw]; omega)
  refine neg_tr c ?_
  clear c
  by_cases c : w / 16384 = 2 ∧ w / 4096 % 2 = 0
  · exfalso
    by_cases a : w / 512 % 2 = 0
    · by_cases b : w / 8 % 2 = 0
      · exact H (53768, 32768, "lddz") (by decide) (by show (w &&& 53768) = 32768; rw [m53768 hw]; omega)
      · exact H (53768, 32776, "lddy") (by decide) (by show (w &&& 53768) = 32776; rw [m53768 hw]; omega)
    · by_cases b : w / 8 % 2 = 0
      · exact H (53768, 33280, "stdz") (by decide) (by show (w &&& 53768) = 33280; rw [m53768 hw]; omega)
      · exact H (53768, 33288, "stdy") (by decide) (by show (w &&& 53768) = 33288; rw [m53768 hw]; omega)
  refine neg_tr c ?_
  clear c
  by_cases cc : w / 512 = 0x48 ∨ w / 512 = 0x49
  · rw [if_pos cc]
    by_cases c : w % 16 = 0
    · exfalso
      rcases cc with a | a
      · exact H (65039, 36864, "lds") (by decide) (by show (w &&& 65039) = 36864; rw [m65039 hw]; omega)
      · exact H (65039, 37376, "sts") (by decide) (by show (w &&& 65039) = 37376; rw [m65039 hw]; omega)
    refine neg_tr c ?_
    clear c
    by_cases c : w % 16 = 1
    · exfalso
      rcases cc with a | a
      · exact H (65039, 36865, "ldzp") (by decide) (by show (w &&& 65039) = 36865; rw [m65039 hw]; omega)
      · exact H (65039, 37377, "stzp") (by decide) (by show (w &&& 65039) = 37377; rw [m65039 hw]; omega)
    refine neg_tr c ?_
    clear c
    by_cases c : w % 16 = 2
    · exfalso
      rcases cc with a | a
      · exact H (65039, 36866, "ldmz") (by decide) (by show (w &&& 65039) = 36866; rw [m65039 hw]; omega)
      · exact H (65039, 37378, "stmz") (by decide) (by show (w &&& 65039) = 37378; rw [m65039 hw]; omega)
    refine neg_tr c ?_
    clear c
    by_cases c : w % 16 = 9
    · exfalso
      rcases cc with a | a
      · exact H (65039, 36873, "ldyp") (by decide) (by show (w &&& 65039) = 36873; rw [m65039 hw]; omega)
      · exact H (65039, 37385, "styp") (by decide) (by show (w &&& 65039) = 37385; rw [m65039 hw]; omega)
    refine neg_tr c ?_
    clear c
    by_cases c : w % 16 = 10
    · exfalso
      rcases cc with a | a
      · exact H (65039, 36874, "ldmy") (by decide) (by show (w &&& 65039) = 36874; rw [m65039 hw]; omega)
      · exact H (65039, 37386, "stmy") (by decide) (by show (w &&& 65039) = 37386; rw [m65039 hw]; omega)
    refine neg_tr c ?_
    clear c
    by_cases c : w % 16 = 12
    · exfalso
      rcases cc with a | a
      · exact H (65039, 36876, "ldx") (by decide) (by show (w &&& 65039) = 36876; rw [m65039 hw]; omega)
      · exact H (65039, 37388, "stx") (by decide) (by show (w &&& 65039) = 37388; rw [m65039 hw]; omega)
    refine neg_tr c ?_
    clear c
    by_cases c : w % 16 = 13
    · exfalso
      rcases cc with a | a
      · exact H (65039, 36877, "ldxp") (by decide) (by show (w &&& 65039) = 36877; rw [m65039 hw]; omega)
      · exact H (65039, 37389, "stxp") (by decide) (by show (w &&& 65039) = 37389; rw [m65039 hw]; omega)
    refine neg_tr c ?_
    clear c
    by_cases c : w % 16 = 14
    · exfalso
      rcases cc with a | a
      · exact H (65039, 36878, "ldmx") (by decide) (by show (w &&& 65039) = 36878; rw [m65039 hw]; omega)
      · exact H (65039, 37390, "stmx") (by decide) (by show (w &&& 65039) = 37390; rw [m65039 hw]; omega)
    refine neg_tr c ?_
    clear c
    by_cases c : w % 16 = 15
    · exfalso
      rcases cc with a | a
      · exact H (65039, 36879, "pop") (by decide) (by show (w &&& 65039) = 36879; rw [m65039 hw]; omega)
      · exact H (65039, 37391, "push") (by decide) (by show (w &&& 65039) = 37391; rw [m65039 hw]; omega)
    refine neg_tr c ?_
    clear c
    by_cases c : w % 16 = 4 ∧ (w / 512 == 0x49) = false
    · exfalso
      have c1 := c.1
      have c2 := beq_eq_false_iff_ne.mp c.2
      exact H (65039, 36868, "lpmz") (by decide) (by show (w &&& 65039) = 36868; rw [m65039 hw]; omega)
    refine neg_tr c ?_
    clear c
    by_cases c : w % 16 = 5 ∧ (w / 512 == 0x49) = false
    · exfalso
      have c1 := c.1
      have c2 := beq_eq_false_iff_ne.mp c.2
      exact H (65039, 36869, "lpmzp") (by decide) (by show (w &&& 65039) = 36869; rw [m65039 hw]; omega)
    refine neg_tr c ?_
    clear c
    rfl
  rw [if_neg cc]
  clear cc
  by_cases cc : w / 512 = 0x4A
  · rw [if_pos cc]
    by_cases c : w % 16 = 0
    · exfalso
      exact H (65039, 37888, "com") (by decide) (by show (w &&& 65039) = 37888; rw [m65039 hw]; omega)
    refine neg_tr c ?_
    clear c
    by_cases c : w % 16 = 1
    · exfalso
      exact H (65039, 37889, "neg") (by decide) (by show (w &&& 65039) = 37889; rw [m65039 hw]; omega)
    refine neg_tr c ?_
    clear c
    by_cases c : w % 16 = 2
    · exfalso
      exact H (65039, 37890, "swap") (by decide) (by show (w &&& 65039) = 37890; rw [m65039 hw]; omega)
    refine neg_tr c ?_
    clear c
    by_cases c : w % 16 = 3
    · exfalso
      exact H (65039, 37891, "inc") (by decide) (by show (w &&& 65039) = 37891; rw [m65039 hw]; omega)
    refine neg_tr c ?_
    clear c
    by_cases c : w % 16 = 5
    · exfalso
      exact H (65039, 37893, "asr") (by decide) (by show (w &&& 65039) = 37893; rw [m65039 hw]; omega)
    refine neg_tr c ?_
    clear c
    by_cases c : w % 16 = 6
    · exfalso
      exact H (65039, 37894, "lsr") (by decide) (by show (w &&& 65039) = 37894; rw [m65039 hw]; omega)
    refine neg_tr c ?_
    clear c
    by_cases c : w % 16 = 7
    · exfalso
      exact H (65039, 37895, "ror") (by decide) (by show (w &&& 65039) = 37895; rw [m65039 hw]; omega)
    refine neg_tr c ?_
    clear c
    by_cases c : w % 16 = 10
    · exfalso
      exact H (65039, 37898, "dec") (by decide) (by show (w &&& 65039) = 37898; rw [m65039 hw]; omega)
    refine neg_tr c ?_
    clear c
    by_cases c : w % 16 = 8 ∧ w / 256 = 0x94
    · exfalso
      by_cases a : w / 128 % 2 = 0
      · exact H (65423, 37896, "bset") (by decide) (by show (w &&& 65423) = 37896; rw [m65423 hw]; omega)
      · exact H (65423, 38024, "bclr") (by decide) (by show (w &&& 65423) = 38024; rw [m65423 hw]; omega)
    refine neg_tr c ?_
    clear c
    by_cases c : w % 16 / 2 = 6
    · exfalso
      exact H (65038, 37900, "jmp") (by decide) (by show (w &&& 65038) = 37900; rw [m65038 hw]; omega)
    refine neg_tr c ?_
    clear c
    by_cases c : w % 16 / 2 = 7
    · exfalso
      exact H (65038, 37902, "call") (by decide) (by show (w &&& 65038) = 37902; rw [m65038 hw]; omega)
    refine neg_tr c ?_
    clear c
    rfl
  rw [if_neg cc]
  clear cc
  by_cases c : w / 256 = 0x96 ∨ w / 256 = 0x97
  · exfalso
    rcases c with c | c
    · exact H (65280, 38400, "adiw") (by decide) (by show (w &&& 65280) = 38400; rw [m65280 hw]; omega)
    · exact H (65280, 38656, "sbiw") (by decide) (by show (w &&& 65280) = 38656; rw [m65280 hw]; omega)
  refine neg_tr c ?_
  clear c
  by_cases c : w / 256 = 0x98
  · exfalso
    exact H (65280, 38912, "cbi") (by decide) (by show (w &&& 65280) = 38912; rw [m65280 hw]; omega)
  refine neg_tr c ?_
  clear c
  by_cases c : w / 256 = 0x99
  · exfalso
    exact H (65280, 39168, "sbic") (by decide) (by show (w &&& 65280) = 39168; rw [m65280 hw]; omega)
  refine neg_tr c ?_
  clear c
  by_cases c : w / 256 = 0x9A
  · exfalso
    exact H (65280, 39424, "sbi") (by decide) (by show (w &&& 65280) = 39424; rw [m65280 hw]; omega)
  refine neg_tr c ?_
  clear c
  by_cases c : w / 256 = 0x9B
  · exfalso
    exact H (65280, 39680, "sbis") (by decide) (by show (w &&& 65280) = 39680; rw [m65280 hw]; omega)
  refine neg_tr c ?_
  clear c
  by_cases c : w / 1024 = 0x27
  · exfalso
    exact H (64512, 39936, "mul") (by decide) (by show (w &&& 64512) = 39936; rw [m64512 hw]; omega)
  refine neg_tr c ?_
  clear c
  by_cases c : w / 2048 = 0x16
  · exfalso
    exact H (63488, 45056, "in") (by decide) (by show (w &&& 63488) = 45056; rw [m63488 hw]; omega)
  refine neg_tr c ?_
  clear c
  by_cases c : w / 2048 = 0x17
  · exfalso
    exact H (63488, 47104, "out") (by decide) (by show (w &&& 63488) = 47104; rw [m63488 hw]; omega)
  refine neg_tr c ?_
  clear c
  by_cases c : w / 4096 = 12
  · exfalso
    exact H (61440, 49152, "rjmp") (by decide) (by show (w &&& 61440) = 49152; rw [m61440 hw]; omega)
  refine neg_tr c ?_
  clear c
  by_cases c : w / 4096 = 13
  · exfalso
    exact H (61440, 53248, "rcall") (by decide) (by show (w &&& 61440) = 53248; rw [m61440 hw]; omega)
  refine neg_tr c ?_
  clear c
  by_cases c : w / 1024 = 0x3C
  · exfalso
    exact H (64512, 61440, "brbs") (by decide) (by show (w &&& 64512) = 61440; rw [m64512 hw]; omega)
  refine neg_tr c ?_
  clear c
  by_cases c : w / 1024 = 0x3D
  · exfalso
    exact H (64512, 62464, "brbc") (by decide) (by show (w &&& 64512) = 62464; rw [m64512 hw]; omega)
  refine neg_tr c ?_
  clear c
  by_cases c : w / 512 = 0x7C ∧ w / 8 % 2 = 0
  · exfalso
    exact H (65032, 63488, "bld") (by decide) (by show (w &&& 65032) = 63488; rw [m65032 hw]; omega)
  refine neg_tr c ?_
  clear c
  by_cases c : w / 512 = 0x7D ∧ w / 8 % 2 = 0
  · exfalso
    exact H (65032, 64000, "bst") (by decide) (by show (w &&& 65032) = 64000; rw [m65032 hw]; omega)
  refine neg_tr c ?_
  clear c
  by_cases c : w / 512 = 0x7E ∧ w / 8 % 2 = 0
  · exfalso
    exact H (65032, 64512, "sbrc") (by decide) (by show (w &&& 65032) = 64512; rw [m65032 hw]; omega)
  refine neg_tr c ?_
  clear c
  by_cases c : w / 512 = 0x7F ∧ w / 8 % 2 = 0
  · exfalso
    exact H (65032, 65024, "sbrs") (by decide) (by show (w &&& 65032) = 65024; rw [m65032 hw]; omega)
  refine neg_tr c ?_
  clear c
  rfl
/-- how many words stand at a place, 0 for none -/
def lenOf (c : Code) (a : Nat) : Nat := ((insnAt c a).map wordsOf).getD 0
theorem find_ent {w : Nat} {e : Nat × Nat × String} (h : entOf w = some e) : e ∈ tab ∧ w &&& e.1 = e.2.1 := by
  have h' : tab.find? (fun e => w &&& e.1 == e.2.1) = some e := h
  have h2 := List.find?_some h'
  exact ⟨List.mem_of_find?_eq_some h', beq_iff_eq.mp h2⟩
theorem find_no {w : Nat} (h : entOf w = none) : ∀ e ∈ tab, ¬ w &&& e.1 = e.2.1 := fun e he c => by
  have h' : tab.find? (fun e => w &&& e.1 == e.2.1) = none := h
  exact absurd (beq_iff_eq.mpr c) (by simpa using List.find?_eq_none.mp h' e he)
theorem len_noword {c : Code} {a : Nat} (h : c[a]? = none) : lenOf c a = 0 := by
  unfold lenOf insnAt
  rw [h]
  rfl
theorem len_noname {c : Code} {a w : Nat} (h : c[a]? = some w) (hw : w < 65536) (e : entOf w = none) : lenOf c a = 0 := by
  unfold lenOf insnAt
  rw [h]
  show ((decode w c[a + 1]?).map wordsOf).getD 0 = 0
  rw [dec_none hw (find_no e)]
  rfl
theorem len_one {c : Code} {a w : Nat} {e : Nat × Nat × String} (h : c[a]? = some w) (hw : w < 65536) (f : entOf w = some e) (t : two e.2.2 = false) : lenOf c a = 1 := by
  unfold lenOf insnAt
  rw [h]
  show ((decode w c[a + 1]?).map wordsOf).getD 0 = 1
  rw [len_all e (find_ent f).1 w hw (find_ent f).2, t]
  rfl
theorem len_two {c : Code} {a w : Nat} {e : Nat × Nat × String} (h : c[a]? = some w) (hw : w < 65536) (f : entOf w = some e) (t : two e.2.2 = true) : lenOf c a = if c[a + 1]? = none then 0 else 2 := by
  unfold lenOf insnAt
  rw [h]
  show ((decode w c[a + 1]?).map wordsOf).getD 0 = _
  rw [len_all e (find_ent f).1 w hw (find_ent f).2, t]
  cases c[a + 1]? <;> rfl
end Bc
namespace Bc
open PySem PySem.Spec PyProof.Rows L2
/-! ### the text by places -/
def top (i : Nat) : Stmt := PySem.Challenge.pw_bytecore_s02_words.main.body.getD i (.Pass ⟨0, 0, 0, 0⟩)
abbrev dd (x : Str) (st : Stmt) : He.DefD := ⟨(x, none), x, x, defArgs st, defBody st, defScope st, [], []⟩
abbrev dm (C x q : Str) (st : Stmt) : He.DefD := ⟨(C, some x), x, q, defArgs st, defBody st, defScope st, [], []⟩
abbrev s_name_of : Stmt := top 3
abbrev s_word_at : Stmt := top 4
abbrev s_length_at : Stmt := top 5
abbrev s_words : Stmt := top 10
/-! ### the facts that are looked at behind the top -/
abbrev d_name_of : He.DefD := dd "name_of" s_name_of
abbrev d_word_at : He.DefD := dd "word_at" s_word_at
abbrev d_length_at : He.DefD := dd "length_at" s_length_at
abbrev d_words : He.DefD := dd "words" s_words
def fn : List He.DefD := [d_name_of, d_word_at, d_length_at, d_words]
def fa : List He.Fa := [.glo "name_of", .glo "word_at", .glo "length_at", .glo "words", .int "ROUND" (65536), .int "BAD" (-1), .int "NONE" (-2), .glo "TABLE", .glo "TWO_WORDS", .free "len"]
/-- the table's rows: tuples of two numbers and a name -/
def rowB (K : PySem.W.Frag) (a : Addr) (e : Nat × Nat × String) : Bool := match K.lookup a with
  | some ⟨.type c, _, .seq its _, _⟩ => decide (c = "tuple") && (decide (its.size ≤ sizeLine) && He.relAll [.int e.1, .int e.2.1, .str (Str.ofString e.2.2)] its.toList)
  | _ => false
def rowsB (K : PySem.W.Frag) : List Value → List (Nat × Nat × String) → Bool
  | [], [] => true
  | .ref a :: us, e :: es => rowB K a e && rowsB K us es
  | _, _ => false
def tabB (K : PySem.W.Frag) : Bool := match K.lookup (He.ga K "TABLE") with
  | some ⟨.type c, _, .seq its _, _⟩ => decide (c = "tuple") && (decide (its.size ≤ sizeLine) && rowsB K its.toList tab)
  | _ => false
def twoV : List He.Dv := [.str "lds", .str "sts", .str "jmp", .str "call"]
def tbs : List He.Tab := []
def exB (K : PySem.W.Frag) : Bool := He.tupB K "TWO_WORDS" twoV && (tabB K && true)
abbrev R := PySem.Challenge.rw_bytecore_s02_words
abbrev hk : PySem.W.Hook := He.hookX 5 fa fn tbs [] exB
def ob (s : PySem.W.SharedT) : He.AlX := He.obsX 5 fa fn tbs [] exB (HandSHeadRun.getT s)
theorem ob_eq (s : PySem.W.SharedT) : ob s = hk.obs s.abs := He.obsX_eq (HandSHeadRun.getT_eq s)
def loose : List Str := ["TWO_WORDS", "TABLE", "name_of", "word_at", "length_at", "ROUND", "BAD", "NONE"]
/-- what stands behind the top -/
structure Tx (K : PySem.W.Frag) (mg : Str → Option Value) (w : World) : Prop where
  ex : ∃ h : Heap, K.In h ∧ h.Ns mainGlobals mg
  c : He.SaysT fa fn tbs w K
  more : exB K = true
section
variable {K : PySem.W.Frag} {mg : Str → Option Value} {w : World}
theorem Tx.g (T : Tx K mg w) (i : Nat) {x : Str} (h : fa[i]? = some (.glo x)) : mg x = some (.ref (He.ga K x)) := by
  obtain ⟨hp, X, G⟩ := T.ex
  exact He.glo_ok X G (T.c.d.fact i h)
theorem Tx.n (T : Tx K mg w) (i : Nat) {x : Str} {v : Int} (h : fa[i]? = some (.int x v)) : ∃ t, mg x = some (.int v t) := by
  obtain ⟨hp, X, G⟩ := T.ex
  exact He.int_ok X G (T.c.d.fact i h)
theorem Tx.no (T : Tx K mg w) (i : Nat) {x : Str} (h : fa[i]? = some (.free x)) : mg x = none := by
  obtain ⟨hp, X, G⟩ := T.ex
  exact He.free_ok X G (T.c.d.fact i h)
theorem g_name_of (T : Tx K mg w) : mg "name_of" = some (.ref (He.ga K "name_of")) := T.g 0 rfl
theorem g_word_at (T : Tx K mg w) : mg "word_at" = some (.ref (He.ga K "word_at")) := T.g 1 rfl
theorem g_length_at (T : Tx K mg w) : mg "length_at" = some (.ref (He.ga K "length_at")) := T.g 2 rfl
theorem g_words (T : Tx K mg w) : mg "words" = some (.ref (He.ga K "words")) := T.g 3 rfl
theorem n_ROUND (T : Tx K mg w) : ∃ t, mg "ROUND" = some (.int (65536) t) := T.n 4 rfl
theorem n_BAD (T : Tx K mg w) : ∃ t, mg "BAD" = some (.int (-1) t) := T.n 5 rfl
theorem n_NONE (T : Tx K mg w) : ∃ t, mg "NONE" = some (.int (-2) t) := T.n 6 rfl
theorem g_TABLE (T : Tx K mg w) : mg "TABLE" = some (.ref (He.ga K "TABLE")) := T.g 7 rfl
theorem g_TWO_WORDS (T : Tx K mg w) : mg "TWO_WORDS" = some (.ref (He.ga K "TWO_WORDS")) := T.g 8 rfl
theorem no_len (T : Tx K mg w) : mg "len" = none := T.no 9 rfl
theorem f_name_of (T : Tx K mg w) : ∃ fd, FunD K "name_of" "name_of" (defArgs s_name_of) (defBody s_name_of) (defScope s_name_of) [] [] (He.ga K "name_of") fd := T.c.d.def_ 0 (d := d_name_of) rfl
theorem f_word_at (T : Tx K mg w) : ∃ fd, FunD K "word_at" "word_at" (defArgs s_word_at) (defBody s_word_at) (defScope s_word_at) [] [] (He.ga K "word_at") fd := T.c.d.def_ 1 (d := d_word_at) rfl
theorem f_length_at (T : Tx K mg w) : ∃ fd, FunD K "length_at" "length_at" (defArgs s_length_at) (defBody s_length_at) (defScope s_length_at) [] [] (He.ga K "length_at") fd := T.c.d.def_ 2 (d := d_length_at) rfl
theorem f_words (T : Tx K mg w) : ∃ fd, FunD K "words" "words" (defArgs s_words) (defBody s_words) (defScope s_words) [] [] (He.ga K "words") fd := T.c.d.def_ 3 (d := d_words) rfl
/-! the table -/
theorem rowB_ok {a : Addr} {e : Nat × Nat × String} (h : rowB K a e = true) (H : Hp) : SqT K H a [.int (e.1 : Int), .int (e.2.1 : Int), .str (Str.ofString e.2.2)] := by
  unfold rowB at h
  split at h
  · rename_i c od its n sl q
    obtain ⟨h1, h2⟩ := He.ba h
    obtain ⟨h3, h4⟩ := He.ba h2
    exact .inr ⟨_, its, n, q, congrArg Value.type (of_decide_eq_true h1), rfl, of_decide_eq_true h3, He.relAll_ok h4⟩
  · cases h
theorem rowsB_ok : ∀ {us : List Value} {es : List (Nat × Nat × String)}, rowsB K us es = true → ∃ ps : List Addr, Vals (ps.map V.ref) us ∧ Paired (fun (p : Addr) (e : Nat × Nat × String) => rowB K p e = true) ps es
  | [], [], _ => ⟨[], .nil, .nil⟩
  | [], _ :: _, h => by cases h
  | u :: us, [], h => by cases u <;> cases h
  | u :: us, e :: es, h => by
    cases u with
    | ref a =>
      obtain ⟨h1, h2⟩ := He.ba (show (rowB K a e && rowsB K us es) = true from h)
      obtain ⟨ps, h3, h4⟩ := rowsB_ok h2
      exact ⟨a :: ps, .cons rfl h3, .cons h1 h4⟩
    | _ => cases h
theorem tabB_ok (h : tabB K = true) : ∃ ps : List Addr, (∀ H : Hp, SqT K H (He.ga K "TABLE") (ps.map V.ref)) ∧ Paired (fun (p : Addr) (e : Nat × Nat × String) => rowB K p e = true) ps tab := by
  unfold tabB at h
  split at h
  · rename_i c od its n sl q
    obtain ⟨h1, h2⟩ := He.ba h
    obtain ⟨h3, h4⟩ := He.ba h2
    obtain ⟨ps, h5, h6⟩ := rowsB_ok h4
    exact ⟨ps, fun H => .inr ⟨_, its, n, q, congrArg Value.type (of_decide_eq_true h1), rfl, of_decide_eq_true h3, h5⟩, h6⟩
  · cases h
theorem Tx.tab (T : Tx K mg w) : ∃ ps : List Addr, (∀ H : Hp, SqT K H (He.ga K "TABLE") (ps.map V.ref)) ∧ Paired (fun (p : Addr) (e : Nat × Nat × String) => rowB K p e = true) ps tab :=
  tabB_ok (He.ba (He.ba (show (He.tupB K "TWO_WORDS" twoV && (tabB K && _)) = true from T.more)).2).1
theorem Tx.two (T : Tx K mg w) (H : Hp) : SqT K H (He.ga K "TWO_WORDS") [.str "lds", .str "sts", .str "jmp", .str "call"] :=
  He.tupB_ok (He.ba (show (He.tupB K "TWO_WORDS" twoV && (tabB K && _)) = true from T.more)).1 H
end
end Bc
namespace Bc
open PySem PySem.Spec PyProof.Rows L2

/-! ### spec's machine: pointwise -/
theorem set_data (m : Sf43.M) (a x : Nat) : (m.set a x).data = m.data.set (a % 65536) (UInt8.ofNat (x % 256)) := by
  show (m.data.mapIdx fun i y => if i = a % 65536 then UInt8.ofNat (x % 256) else y) = _
  refine List.ext_getElem? fun i => ?_
  rw [List.getElem?_mapIdx, List.getElem?_set]
  by_cases h : a % 65536 = i
  · subst h
    rw [if_pos rfl]
    by_cases l : a % 65536 < m.data.length
    · rw [if_pos l, List.getElem?_eq_getElem l]
      show some (if a % 65536 = a % 65536 then _ else _) = _
      rw [if_pos rfl]
    · rw [if_neg l, List.getElem?_eq_none (by omega)]
      rfl
  · rw [if_neg h]
    cases q : m.data[i]? with
    | none => rfl
    | some y =>
      show some (if i = a % 65536 then _ else y) = _
      rw [if_neg (fun z => h z.symm)]

/-! ### a def that stands behind the top and keeps its promise -/
structure FH (P : Program) (w : World) (K : PySem.W.Frag) (mg : Str → Option Value) (base : Heap) (k : Nat) (f : Addr) (ps : List Str) (sp : Sp) : Prop where
  ex : ∃ fd : FuncData, FnOk P w K mg base CX0 k f fd ps sp ∧ Binds K fd ps [] ∧ PySem.W.keepIn K (.ref f) = true ∧ ∃ oc od osl, K.lookup f = some ⟨oc, od, .func fd, osl⟩

/-! ### the machine in the heap -/
structure Ad where
  a : Addr
  dx : Addr
  d : Addr
  n : Addr
  l : Addr
  c : Addr
def flds (G : Ad) (pc : Nat) (ov : Bool) : List (Str × V) := [("code", .ref G.c), ("data", .ref G.d), ("at", .int (pc : Int)), ("over", .bl ov), ("names", .ref G.n), ("lengths", .ref G.l)]
def nameV (w : Nat) : V := match entOf w with
  | some e => .str (Str.ofString e.2.2)
  | none => .non
def NamOk (kvs : List (Key × V)) : Prop := (kvs.map (·.1)).Nodup ∧ ∀ p ∈ kvs, ∃ w : Nat, w < 65536 ∧ p = (.inl (w : Int), nameV w)
def LngOk (cd : List Nat) (kvs : List (Key × V)) : Prop := (kvs.map (·.1)).Nodup ∧ ∀ p ∈ kvs, ∃ q : Nat, q < 65536 ∧ p = (.inl (q : Int), .int (lenOf cd q : Int))
/-- a list that nobody writes -/
def Frz (K : PySem.W.Frag) (H : Hp) (c : Addr) (xs : List V) : Prop := (∃ o, H c = some (.frz o (.lst xs))) ∨
  ∃ (o : Obj) (its : Array Value) (n : Nat), K.lookup c = some o ∧ o.cls = .type "list" ∧ o.dict = none ∧ o.data = .seq its n ∧ its.size ≤ sizeLine ∧ Vals xs its.toList
def notFrz : HO → Prop
  | .frz _ _ => False
  | _ => True
theorem Frz.sq {K : PySem.W.Frag} {H : Hp} {c : Addr} {xs : List V} (h : Frz K H c xs) : SqL K H c xs := by
  rcases h with ⟨o, h⟩ | h
  · exact .inl (.inr ⟨o, h⟩)
  · exact .inr h
theorem Frz.of {K : PySem.W.Frag} {H : Hp} {c : Addr} {xs : List V} (hO : OnlyF H) (h : SqL K H c xs) : Frz K H c xs := by
  rcases h with (h | ⟨o, h⟩) | h
  · rcases hO c with z | ⟨o, u, z⟩
    · rw [h] at z; cases z
    · rw [h] at z; cases z
  · exact .inl ⟨o, h⟩
  · exact .inr h
theorem Frz.wr {K : PySem.W.Frag} {H : Hp} {c b : Addr} {xs : List V} {u v : HO} (h : Frz K H c xs) (hb : H b = some u) (hn : notFrz u) : Frz K (upd H b v) c xs := by
  rcases h with ⟨o, h⟩ | h
  · refine .inl ⟨o, ?_⟩
    rw [upd_ne]
    · exact h
    · rintro rfl
      rw [h] at hb
      cases hb
      exact hn
  · exact .inr h
theorem Frz.nw {K : PySem.W.Frag} {H : Hp} {c b : Addr} {xs : List V} {v : HO} (h : Frz K H c xs) (hb : H b = none) : Frz K (upd H b v) c xs := by
  rcases h with ⟨o, h⟩ | h
  · exact .inl ⟨o, by rw [upd_ne (ne_of_none h hb)]; exact h⟩
  · exact .inr h
theorem Frz.same {K : PySem.W.Frag} {H H' : Hp} {c : Addr} {xs : List V} (h : Frz K H c xs) (s : Same H H') : Frz K H' c xs := by
  rcases h with ⟨o, h⟩ | h
  · exact .inl ⟨o, s _ _ h⟩
  · exact .inr h
def byteV (b : UInt8) : V := .int ((b.toNat : Nat) : Int)
structure Mh (K : PySem.W.Frag) (C : Addr) (cd : List Nat) (G : Ad) (ov : Bool) (m : Sf43.M) (H : Hp) : Prop where
  obj : H G.a = some (.ins C G.dx (flds G m.pc ov))
  dat : H G.d = some (.lst (m.data.map byteV))
  len : m.data.length = 65536
  pc : m.pc < 65536
  nam : ∃ kvs, H G.n = some (.dK kvs) ∧ NamOk kvs
  lng : ∃ kvs, H G.l = some (.dK kvs) ∧ LngOk cd kvs
  ne : G.n ≠ G.l
  cod : Frz K H G.c (cd.map fun x => V.int ((x : Nat) : Int))
  cdl : cd.length ≤ 60000
  cdw : ∀ x ∈ cd, x < 65536
section
variable {K : PySem.W.Frag} {C : Addr} {cd : List Nat} {G : Ad} {ov : Bool} {m : Sf43.M} {H H' : Hp}
theorem Mh.same (h : Mh K C cd G ov m H) (s : Same H H') : Mh K C cd G ov m H' := by
  obtain ⟨k1, e1, o1⟩ := h.nam
  obtain ⟨k2, e2, o2⟩ := h.lng
  exact ⟨s _ _ h.obj, s _ _ h.dat, h.len, h.pc, ⟨k1, s _ _ e1, o1⟩, ⟨k2, s _ _ e2, o2⟩, h.ne, h.cod.same s, h.cdl, h.cdw⟩
theorem Mh.new (h : Mh K C cd G ov m H) {p : Addr} {o : HO} (hp : H p = none) : Mh K C cd G ov m (upd H p o) := h.same fun b u e => by
  rw [upd_ne (ne_of_none e hp)]
  exact e
theorem ins_ne_lst {C dx : Addr} {fs : List (Str × V)} {xs : List V} : HO.ins C dx fs ≠ .lst xs := fun z => by cases z
theorem ins_ne_dK {C dx : Addr} {fs : List (Str × V)} {xs : List (Key × V)} : HO.ins C dx fs ≠ .dK xs := fun z => by cases z
theorem lst_ne_dK {ys : List V} {xs : List (Key × V)} : HO.lst ys ≠ .dK xs := fun z => by cases z
/-- the data are written -/
theorem Mh.put (h : Mh K C cd G ov m H) {m' : Sf43.M} (hpc : m'.pc = m.pc) (hl : m'.data.length = 65536) : Mh K C cd G ov m' (upd H G.d (.lst (m'.data.map byteV))) := by
  obtain ⟨k1, e1, o1⟩ := h.nam
  obtain ⟨k2, e2, o2⟩ := h.lng
  refine ⟨?_, upd_same, hl, by rw [hpc]; exact h.pc, ⟨k1, ?_, o1⟩, ⟨k2, ?_, o2⟩, h.ne, h.cod.wr h.dat trivial, h.cdl, h.cdw⟩
  · rw [upd_ne (ne_of h.obj h.dat ins_ne_lst), hpc]
    exact h.obj
  · rw [upd_ne (ne_of h.dat e1 lst_ne_dK).symm]
    exact e1
  · rw [upd_ne (ne_of h.dat e2 lst_ne_dK).symm]
    exact e2
/-- the object is written: where it stands, whether it is over -/
theorem Mh.go (h : Mh K C cd G ov m H) {pc' : Nat} {ov' : Bool} (hpc : pc' < 65536) : Mh K C cd G ov' { m with pc := pc' } (upd H G.a (.ins C G.dx (flds G pc' ov'))) := by
  obtain ⟨k1, e1, o1⟩ := h.nam
  obtain ⟨k2, e2, o2⟩ := h.lng
  refine ⟨upd_same, ?_, h.len, hpc, ⟨k1, ?_, o1⟩, ⟨k2, ?_, o2⟩, h.ne, h.cod.wr h.obj trivial, h.cdl, h.cdw⟩
  · rw [upd_ne (ne_of h.obj h.dat ins_ne_lst).symm]
    exact h.dat
  · rw [upd_ne (ne_of h.obj e1 ins_ne_dK).symm]
    exact e1
  · rw [upd_ne (ne_of h.obj e2 ins_ne_dK).symm]
    exact e2
theorem Mh.nams (h : Mh K C cd G ov m H) {kvs : List (Key × V)} (hk : NamOk kvs) : Mh K C cd G ov m (upd H G.n (.dK kvs)) := by
  obtain ⟨k1, e1, o1⟩ := h.nam
  obtain ⟨k2, e2, o2⟩ := h.lng
  refine ⟨?_, ?_, h.len, h.pc, ⟨kvs, upd_same, hk⟩, ⟨k2, ?_, o2⟩, h.ne, h.cod.wr e1 trivial, h.cdl, h.cdw⟩
  · rw [upd_ne (ne_of h.obj e1 ins_ne_dK)]
    exact h.obj
  · rw [upd_ne (ne_of h.dat e1 lst_ne_dK)]
    exact h.dat
  · rw [upd_ne h.ne.symm]
    exact e2
theorem Mh.lngs (h : Mh K C cd G ov m H) {kvs : List (Key × V)} (hk : LngOk cd kvs) : Mh K C cd G ov m (upd H G.l (.dK kvs)) := by
  obtain ⟨k1, e1, o1⟩ := h.nam
  obtain ⟨k2, e2, o2⟩ := h.lng
  refine ⟨?_, ?_, h.len, h.pc, ⟨k1, ?_, o1⟩, ⟨kvs, upd_same, hk⟩, h.ne, h.cod.wr e2 trivial, h.cdl, h.cdw⟩
  · rw [upd_ne (ne_of h.obj e2 ins_ne_dK)]
    exact h.obj
  · rw [upd_ne (ne_of h.dat e2 lst_ne_dK)]
    exact h.dat
  · rw [upd_ne h.ne]
    exact e1
end

/-! ### judgements relative to the machine -/
/-- what is known of the heap, by the machine -/
abbrev Iv := Sf43.M → Hp → Prop
/-- the code, the addresses, whether the run is over -/
structure Mc where
  cd : List Nat
  G : Ad
  ov : Bool
abbrev Mat (K : PySem.W.Frag) (C : Addr) (S : Mc) : Iv := fun m H => Mh K C S.cd S.G S.ov m H
def EvM (S : Iv) (t : TE) (σ : L2.St) (m : Sf43.M) (v : V) (m' : Sf43.M) : Prop := ∀ (H : Hp) (Q : VK), S m H → (∀ H', S m' H' → Q v H') → t σ H Q
def EvMT (S : Iv) (t : TT) (σ : L2.St) (m : Sf43.M) (b : Bool) (m' : Sf43.M) : Prop := ∀ (H : Hp) (Q : Bool → Hp → Prop), S m H → (∀ H', S m' H' → Q b H') → t σ H Q
def EvMA (S : Iv) (t : TA) (σ : L2.St) (m : Sf43.M) (vs : List V) (m' : Sf43.M) : Prop := ∀ (H : Hp) (Q : List V → Hp → Prop), S m H → (∀ H', S m' H' → Q vs H') → t σ H Q
structure ME (X : Cx) (S : Iv) (e : Expr) (σ : L2.St) (m : Sf43.M) (v : V) (m' : Sf43.M) : Prop where
  ex : ∃ t, PE X e t ∧ EvM S t σ m v m'
structure MT (X : Cx) (S : Iv) (e : Expr) (σ : L2.St) (m : Sf43.M) (b : Bool) (m' : Sf43.M) : Prop where
  ex : ∃ t, PT X e t ∧ EvMT S t σ m b m'
structure MA (X : Cx) (S : Iv) (es : List Expr) (σ : L2.St) (m : Sf43.M) (vs : List V) (m' : Sf43.M) : Prop where
  ex : ∃ t, PA X es t ∧ EvMA S t σ m vs m'
/-- a statement, a block: what is behind it -/
inductive Out where
  | nx (σ : L2.St) (m : Sf43.M)
  | rt (v : V) (m : Sf43.M)
def Out.fin (S : Iv) (D : Ends) : Out → Prop
  | .nx σ m => ∀ H', S m H' → D.nx σ H'
  | .rt v m => ∀ H', S m H' → D.rt v H'
structure MS (X : Cx) (S : Iv) (st : Stmt) (σ : L2.St) (m : Sf43.M) (o : Out) : Prop where
  ex : ∃ t, PS X st t ∧ ∀ (D : Ends) (H : Hp), S m H → o.fin S D → t D σ H
structure MB (X : Cx) (S : Iv) (sts : List Stmt) (σ : L2.St) (m : Sf43.M) (o : Out) : Prop where
  ex : ∃ t, PSs X sts t ∧ ∀ (D : Ends) (H : Hp), S m H → o.fin S D → t D σ H
section
variable {X : Cx} {S : Iv} {σ σ' : L2.St} {m m1 m2 m3 : Sf43.M} {e a b o : Expr} {es : List Expr} {v u y : V} {vs : List V} {pos : Pos}
theorem ME.is (h : ME X S e σ m v m1) {w : V} (q : v = w) : ME X S e σ m w m1 := by rw [← q]; exact h
theorem ME.to (h : ME X S e σ m v m1) (q : m1 = m2) : ME X S e σ m v m2 := by rw [← q]; exact h
theorem me_var (i : Nat) {x : Str} (hs : σ[i]? = some (some v) := by rfl) (hN : X.N[i]? = some x := by rfl) (hv : Vis X.env.scope x := by exact Or.inl rfl) (hd : (x == ("__debug__" : Str)) = false := by decide)
    (hcd : (x == ("__classdict__" : Str)) = false := by decide) : ME X S (.Name x pos) σ m v m :=
  ⟨_, pe_var (i := i) hN hv hd hcd, fun H Q h k => ⟨v, hs, k H h⟩⟩
theorem me_int {i : Int} {j : Nat} : ME X S (.Constant (.int i) j pos) σ m (.int i) m := ⟨_, pe_int, fun H Q h k => k H h⟩
/-- a written number that is not negative -/
theorem me_nat {i : Nat} {j : Nat} : ME X S (.Constant (.int (i : Int)) j pos) σ m (.int (i : Int)) m := me_int
theorem me_bl {b : Bool} {j : Nat} : ME X S (.Constant (.bool b) j pos) σ m (.bl b) m := ⟨_, pe_bl, fun H Q h k => k H h⟩
theorem me_non {j : Nat} : ME X S (.Constant .none j pos) σ m .non m := ⟨_, pe_non, fun H Q h k => k H h⟩
theorem me_glob {x : Str} {w : Value} (hm : X.mg x = some w) (r : RelV v w) (hg : Gl X x := by rfl) (hd : (x == ("__debug__" : Str)) = false := by decide) : ME X S (.Name x pos) σ m v m := ⟨_, pe_glob hg hm r hd, fun H Q h k => k H h⟩
/-- a module's constant -/
theorem me_const {x : Str} {i : Int} (hm : ∃ t, X.mg x = some (.int i t)) (hg : Gl X x := by rfl) (hd : (x == ("__debug__" : Str)) = false := by decide) : ME X S (.Name x pos) σ m (.int i) m := by
  obtain ⟨t, hm⟩ := hm
  exact me_glob hm ⟨t, rfl⟩ hg hd
theorem me_op {op : Operator} {r : R2} {z : V} (ho : OpR X (binaryOp op) r) (ha : ME X S a σ m v m1) (hb : ME X S b σ m1 u m2) (hr : ∀ (H : Hp) (Q : VK), Q z H → r v u H Q) : ME X S (.BinOp a op b pos) σ m z m2 := by
  obtain ⟨ta, pa, qa⟩ := ha.ex
  obtain ⟨tb, pb, qb⟩ := hb.ex
  exact ⟨_, pe_op ho pa pb, fun H Q h k => qa H _ h fun H1 h1 => qb H1 _ h1 fun H2 h2 => hr H2 Q (k H2 h2)⟩
theorem me_addI {i j : Int} (ha : ME X S a σ m (.int i) m1) (hb : ME X S b σ m1 (.int j) m2) : ME X S (.BinOp a .Add b pos) σ m (.int (i + j)) m2 := me_op op_add ha hb fun _ _ q => ⟨i, j, rfl, rfl, q⟩
theorem me_subI {i j : Int} (ha : ME X S a σ m (.int i) m1) (hb : ME X S b σ m1 (.int j) m2) : ME X S (.BinOp a .Sub b pos) σ m (.int (i - j)) m2 := me_op op_sub ha hb fun _ _ q => ⟨i, j, rfl, rfl, q⟩
theorem me_mulI {i j : Int} (ha : ME X S a σ m (.int i) m1) (hb : ME X S b σ m1 (.int j) m2) (hc : CMul i j) : ME X S (.BinOp a .Mult b pos) σ m (.int (i * j)) m2 := me_op op_mul ha hb fun _ _ q => ⟨i, j, rfl, rfl, hc, q⟩
theorem me_modI {i j : Int} (ha : ME X S a σ m (.int i) m1) (hb : ME X S b σ m1 (.int j) m2) (hc : 0 < j) : ME X S (.BinOp a .Mod b pos) σ m (.int (i % j)) m2 := me_op op_mod ha hb fun _ _ q => ⟨i, j, rfl, rfl, hc, q⟩
theorem me_divI {i j : Int} (ha : ME X S a σ m (.int i) m1) (hb : ME X S b σ m1 (.int j) m2) (hc : CDiv i j) : ME X S (.BinOp a .FloorDiv b pos) σ m (.int (i / j)) m2 := me_op op_fdiv ha hb fun _ _ q => ⟨i, j, rfl, rfl, hc, q⟩
theorem me_addN {i j : Nat} (ha : ME X S a σ m (.int (i : Int)) m1) (hb : ME X S b σ m1 (.int (j : Int)) m2) : ME X S (.BinOp a .Add b pos) σ m (.int ((i + j : Nat) : Int)) m2 := me_addI ha hb
theorem me_mulN {i j : Nat} (ha : ME X S a σ m (.int (i : Int)) m1) (hb : ME X S b σ m1 (.int (j : Int)) m2) (hc : i < 2 ^ 64 ∨ j < 2 ^ 64) : ME X S (.BinOp a .Mult b pos) σ m (.int ((i * j : Nat) : Int)) m2 := me_mulI ha hb (by
  unfold CMul
  omega)
theorem me_modN {i j : Nat} (ha : ME X S a σ m (.int (i : Int)) m1) (hb : ME X S b σ m1 (.int (j : Int)) m2) (hc : 0 < j := by decide) : ME X S (.BinOp a .Mod b pos) σ m (.int ((i % j : Nat) : Int)) m2 := me_modI ha hb (by omega)
theorem me_divN {i j : Nat} (ha : ME X S a σ m (.int (i : Int)) m1) (hb : ME X S b σ m1 (.int (j : Int)) m2) (hc : 0 < j ∧ j < 1073741824 := by decide) : ME X S (.BinOp a .FloorDiv b pos) σ m (.int ((i / j : Nat) : Int)) m2 := me_divI ha hb (by
  unfold CDiv
  omega)
theorem bitAnd_nat (i j : Nat) : Builtin.bitAnd (i : Int) (j : Int) = ((i &&& j : Nat) : Int) := by
  unfold Builtin.bitAnd
  rw [decide_eq_true (Int.natCast_nonneg i), decide_eq_true (Int.natCast_nonneg j)]
  rfl
theorem me_andN {i j : Nat} (ha : ME X S a σ m (.int (i : Int)) m1) (hb : ME X S b σ m1 (.int (j : Int)) m2) : ME X S (.BinOp a .BitAnd b pos) σ m (.int ((i &&& j : Nat) : Int)) m2 :=
  me_op op_and ha hb fun H Q q => ⟨i, j, rfl, rfl, by
    show Q (.int (Builtin.bitAnd (i : Int) (j : Int))) H
    rw [bitAnd_nat]
    exact q⟩
theorem me_orN {i j : Nat} (ha : ME X S a σ m (.int (i : Int)) m1) (hb : ME X S b σ m1 (.int (j : Int)) m2) : ME X S (.BinOp a .BitOr b pos) σ m (.int ((i ||| j : Nat) : Int)) m2 :=
  me_op op_or ha hb fun H Q q => ⟨i, j, rfl, rfl, by
    show Q (.int (Builtin.bitOr (i : Int) (j : Int))) H
    rw [Bits.bitOr_pp (Int.natCast_nonneg i) (Int.natCast_nonneg j)]
    exact q⟩
theorem me_xorN {i j : Nat} (ha : ME X S a σ m (.int (i : Int)) m1) (hb : ME X S b σ m1 (.int (j : Int)) m2) : ME X S (.BinOp a .BitXor b pos) σ m (.int ((i ^^^ j : Nat) : Int)) m2 :=
  me_op op_xor ha hb fun H Q q => ⟨i, j, rfl, rfl, by
    show Q (.int (Builtin.bitXor (i : Int) (j : Int))) H
    rw [Bits.bitXor_pp (Int.natCast_nonneg i) (Int.natCast_nonneg j)]
    exact q⟩
theorem me_shrN {i j : Nat} (ha : ME X S a σ m (.int (i : Int)) m1) (hb : ME X S b σ m1 (.int (j : Int)) m2) : ME X S (.BinOp a .RShift b pos) σ m (.int ((i / 2 ^ j : Nat) : Int)) m2 :=
  me_op op_shr ha hb fun H Q q => ⟨i, j, rfl, rfl, Int.natCast_nonneg j, by
    have e : ((i : Int) / 2 ^ (j : Int).toNat) = ((i / 2 ^ j : Nat) : Int) := by
      rw [Int.toNat_natCast]
      exact (by simp : ((i : Int) / 2 ^ j) = ((i / 2 ^ j : Nat) : Int))
    show Q (.int ((i : Int) / 2 ^ (j : Int).toNat)) H
    rw [e]
    exact q⟩
theorem me_shlN {i j : Nat} (ha : ME X S a σ m (.int (i : Int)) m1) (hb : ME X S b σ m1 (.int (j : Int)) m2) (hc : i < 2 ^ 64 ∧ j ≤ 1000000) : ME X S (.BinOp a .LShift b pos) σ m (.int ((i * 2 ^ j : Nat) : Int)) m2 :=
  me_op op_shl ha hb fun H Q q => ⟨i, j, rfl, rfl, ⟨Int.natCast_nonneg j, by omega, by omega⟩, by
    have e : ((i : Int) * 2 ^ (j : Int).toNat) = ((i * 2 ^ j : Nat) : Int) := by
      rw [Int.toNat_natCast]
      exact (by simp : ((i : Int) * 2 ^ j) = ((i * 2 ^ j : Nat) : Int))
    show Q (.int ((i : Int) * 2 ^ (j : Int).toNat)) H
    rw [e]
    exact q⟩
/-! comparisons -/
theorem me_cmp {op : CmpOp} {r : R2} {z : V} (ho : OpR X (compareOp op) r) (ha : ME X S a σ m v m1) (hb : ME X S b σ m1 u m2) (hr : ∀ (H : Hp) (Q : VK), Q z H → r v u H Q) (hm : behindInMarks op b = false) : ME X S (.Compare a [op] [b] pos) σ m z m2 := by
  obtain ⟨ta, pa, qa⟩ := ha.ex
  obtain ⟨tb, pb, qb⟩ := hb.ex
  exact ⟨_, pe_cmpR ho pa pb hm, fun H Q h k => qa H _ h fun H1 h1 => qb H1 _ h1 fun H2 h2 => hr H2 Q (k H2 h2)⟩
theorem mt_cmp {op : CmpOp} {r : R2} {z : Bool} (ho : OpR X (compareOp op) r) (ha : ME X S a σ m v m1) (hb : ME X S b σ m1 u m2) (hr : ∀ (H : Hp) (Q : VK), Q (.bl z) H → r v u H Q) (hm : behindInMarks op b = false) : MT X S (.Compare a [op] [b] pos) σ m z m2 := by
  obtain ⟨ta, pa, qa⟩ := ha.ex
  obtain ⟨tb, pb, qb⟩ := hb.ex
  exact ⟨_, pt_cmpR ho pa pb hm, fun H Q h k => qa H _ h fun H1 h1 => qb H1 _ h1 fun H2 h2 => hr H2 _ ⟨z, rfl, k H2 h2⟩⟩
theorem me_lt {i j : Int} (ha : ME X S a σ m (.int i) m1) (hb : ME X S b σ m1 (.int j) m2) : ME X S (.Compare a [.Lt] [b] pos) σ m (.bl (decide (i < j))) m2 := me_cmp op_lt ha hb (fun _ _ q => ⟨i, j, rfl, rfl, q⟩) (nomark _)
theorem me_gt {i j : Int} (ha : ME X S a σ m (.int i) m1) (hb : ME X S b σ m1 (.int j) m2) : ME X S (.Compare a [.Gt] [b] pos) σ m (.bl (decide (j < i))) m2 := me_cmp op_gt ha hb (fun _ _ q => ⟨i, j, rfl, rfl, q⟩) (nomark _)
theorem me_eq {i j : Int} (ha : ME X S a σ m (.int i) m1) (hb : ME X S b σ m1 (.int j) m2) : ME X S (.Compare a [.Eq] [b] pos) σ m (.bl (decide (i = j))) m2 := me_cmp op_eq ha hb (fun _ _ q => ⟨rfl, by
  have e : decide (V.int i = V.int j) = decide (i = j) := by rw [dec_int, Bool.beq_eq_decide_eq]
  rw [e]
  exact q⟩) (nomark _)
theorem me_neI {i j : Int} (ha : ME X S a σ m (.int i) m1) (hb : ME X S b σ m1 (.int j) m2) : ME X S (.Compare a [.NotEq] [b] pos) σ m (.bl (!decide (i = j))) m2 := me_cmp op_ne ha hb (fun _ _ q => ⟨rfl, by
  have e : decide (V.int i = V.int j) = decide (i = j) := by rw [dec_int, Bool.beq_eq_decide_eq]
  rw [e]
  exact q⟩) (nomark _)
theorem me_neB {i j : Bool} (ha : ME X S a σ m (.bl i) m1) (hb : ME X S b σ m1 (.bl j) m2) : ME X S (.Compare a [.NotEq] [b] pos) σ m (.bl (i != j)) m2 := me_cmp op_ne ha hb (fun _ _ q => ⟨rfl, by
  have e : (!decide (V.bl i = V.bl j)) = (i != j) := by rw [dec_bl]; rfl
  rw [e]
  exact q⟩) (nomark _)
theorem mt_eq {i j : Int} (ha : ME X S a σ m (.int i) m1) (hb : ME X S b σ m1 (.int j) m2) : MT X S (.Compare a [.Eq] [b] pos) σ m (decide (i = j)) m2 := mt_cmp op_eq ha hb (fun _ _ q => ⟨rfl, by
  have e : decide (V.int i = V.int j) = decide (i = j) := by rw [dec_int, Bool.beq_eq_decide_eq]
  rw [e]
  exact q⟩) (nomark _)
theorem mt_isN (ha : ME X S a σ m v m1) {j : Nat} {p2 : Pos} : MT X S (.Compare a [.Is] [.Constant .none j p2] pos) σ m (decide (v = .non)) m1 := by
  obtain ⟨ta, pa, qa⟩ := ha.ex
  exact ⟨_, pt_cmp (pc_isN pa) rfl, fun H Q h k => qa H _ h fun H1 h1 => ⟨_, rfl, k H1 h1⟩⟩
/-- a and b, of truths -/
theorem me_and {c d : Bool} (ha : ME X S a σ m (.bl c) m) (hb : ME X S b σ m (.bl d) m) : ME X S (.BoolOp .And [a, b] pos) σ m (.bl (c && d)) m := by
  obtain ⟨ta, pa, qa⟩ := ha.ex
  obtain ⟨tb, pb, qb⟩ := hb.ex
  refine ⟨_, pe_and pa (pe_one pb), fun H Q h k => qa H _ h fun H1 h1 => ⟨c, rfl, ?_⟩⟩
  cases c with
  | true => exact iteT (qb H1 _ h1 k)
  | false => exact iteF (k H1 h1)
/-! calls -/
theorem ma_nil : MA X S [] σ m [] m := ⟨_, pa_nil, fun H Q h k => k H h⟩
theorem ma_cons (ha : ME X S e σ m v m1) (hr : MA X S es σ m1 vs m2) (hs : starEach (e :: es) X.env = (false, eval e X.env) :: starEach es X.env := by rfl) : MA X S (e :: es) σ m (v :: vs) m2 := by
  obtain ⟨ta, pa, qa⟩ := ha.ex
  obtain ⟨tb, pb, qb⟩ := hr.ex
  exact ⟨_, pa_cons pa pb hs, fun H Q h k => qa H _ h fun H1 h1 => qb H1 _ h1 k⟩
/-- what a promise gives -/
def SpM (S : Iv) (sp : Sp) (vs : List V) (m : Sf43.M) (v : V) (m' : Sf43.M) : Prop := ∀ (H : Hp) (Q : VK), S m H → (∀ H', S m' H' → Q v H') → sp vs H Q E0
theorem me_call {x : Str} {k : Nat} {f : Addr} {ps : List Str} {sp : Sp} {p : Pos} (F : FH X.prog X.w X.K X.mg X.base k f ps sp) (hr : Room k X.A) (hm : X.mg x = some (.ref f)) (ha : MA X S (e :: es) σ m vs m1) (hsp : SpM S sp vs m1 v m2) (hg : Gl X x := by rfl)
    (hdb : (x == ("__debug__" : Str)) = false := by decide) (he : starEach (e :: es) X.env = (false, eval e X.env) :: starEach es X.env := by rfl) (hpl : (backTo pos (starEach es X.env)).any (·.1) = false := by rfl) : ME X S (.Call (.Name x p) (e :: es) [] pos) σ m v m2 := by
  obtain ⟨fd, F, hb, hk, _⟩ := F.ex
  obtain ⟨ta, pa, qa⟩ := ha.ex
  refine ⟨_, pe_call F hr hg hm hk hb .nil pass0 pa hdb he hpl, fun H Q h k => qa H _ h fun H1 h1 => ?_⟩
  show sp (vs ++ []) H1 Q E0
  rw [List.append_nil]
  exact hsp H1 Q h1 k
/-! statements -/
theorem mb_nil : MB X S [] σ m (.nx σ m) := ⟨_, pss_nil, fun D H h k => k H h⟩
variable {st : Stmt} {sts : List Stmt} {out : Out}
theorem mb_cons (h1 : MS X S st σ m (.nx σ' m1)) (h2 : MB X S sts σ' m1 out) : MB X S (st :: sts) σ m out := by
  obtain ⟨t, p, q⟩ := h1.ex
  obtain ⟨t2, p2, q2⟩ := h2.ex
  exact ⟨_, pss_cons p p2, fun D H h k => q _ H h fun H1 h1 => q2 D H1 h1 k⟩
theorem mb_one (h1 : MS X S st σ m out) : MB X S [st] σ m out := by
  obtain ⟨t, p, q⟩ := h1.ex
  exact ⟨_, pss_one p, fun D H h k => q D H h k⟩
/-- a statement that leaves; what is behind it is never reached -/
theorem mb_ret {sts : List Stmt} (h1 : MS X S st σ m (.rt v m1)) : MB X S (st :: sts) σ m (.rt v m1) := by
  obtain ⟨t, p, q⟩ := h1.ex
  refine ⟨_, pss_cons p pss_never, fun D H h k => q _ H h fun H1 h1 => k H1 h1⟩
theorem ms_expr (he : ME X S e σ m v m1) (hs : swapsWith e none pos.line X.env = pure false := by rfl) : MS X S (.Expr e pos) σ m (.nx σ m1) := by
  obtain ⟨t, p, q⟩ := he.ex
  exact ⟨_, ps_expr p hs, fun D H h k => q H _ h k⟩
theorem ms_ret (he : ME X S e σ m v m1) : MS X S (.Return (some e) pos) σ m (.rt v m1) := by
  obtain ⟨t, p, q⟩ := he.ex
  exact ⟨_, ps_ret p, fun D H h k => q H _ h k⟩
theorem ms_set (i : Nat) {x : Str} {p' : Pos} (hN : X.N.Nodup) (he : ME X S e σ m v m1) (hi : X.N[i]? = some x := by rfl) (hx : Loc X.env.scope x := by exact Or.inl rfl) (hs : swapsWith e (some (.Name x p')) pos.line X.env = pure false := by rfl)
    (hf : X.fn x = true ∨ X.env.scope.names.lookup x = some .local := by exact Or.inl rfl) : MS X S (.Assign [.Name x p'] e pos) σ m (.nx (σ.set i (some v)) m1) := by
  obtain ⟨t, p, q⟩ := he.ex
  exact ⟨_, ps_set (i := i) hN hi hx p hs hf, fun D H h k => q H _ h k⟩
theorem ms_if {c : Expr} {A B : List Stmt} {z : Bool} (hc : MT X S c σ m z m1) (ha : z = true → MB X S A σ m1 out) (hb : z = false → MB X S B σ m1 out) : MS X S (.If c A B pos) σ m out := by
  obtain ⟨t, p, q⟩ := hc.ex
  cases z with
  | true =>
    obtain ⟨t2, p2, q2⟩ := (ha rfl).ex
    exact ⟨_, ps_if p p2 pss_never, fun D H h k => q H _ h fun H1 h1 => iteT (q2 D H1 h1 k)⟩
  | false =>
    obtain ⟨t2, p2, q2⟩ := (hb rfl).ex
    exact ⟨_, ps_if p pss_never p2, fun D H h k => q H _ h fun H1 h1 => iteF (q2 D H1 h1 k)⟩
end
section
variable {X : Cx} {C : Addr} {S : Mc} {σ σ' : L2.St} {m m1 m2 m3 : Sf43.M} {e a b o : Expr} {es : List Expr} {v u y : V} {vs : List V} {pos : Pos}
def fldNames : List Str := ["code", "data", "at", "over", "names", "lengths"]
theorem flds_none {G : Ad} {pc : Nat} {ov : Bool} {x : Str} (h : fldNames.all (fun f : Str => !(x == f)) = true) : (flds G pc ov).lookup x = none := by
  unfold fldNames at h
  simp only [List.all_cons, List.all_nil, Bool.and_eq_true, Bool.not_eq_true', Bool.and_true] at h
  obtain ⟨h1, h2, h3, h4, h5, h6⟩ := h
  unfold flds
  simp only [List.lookup, h1, h2, h3, h4, h5, h6]
/-- state.x(e, ..) -/
theorem me_meth {x : Str} {k : Nat} {f : Addr} {ps : List Str} {sp : Sp} {apos : Pos} {pl : Sem Bool} (F : FH X.prog X.w X.K X.mg X.base k f ps sp) (hr : Room k X.A) (c : Cls X.K C) (hm : Meth X.K C x f) (ho : ME X (Mat X.K C S) o σ m (.ref S.G.a) m) (ha : MA X (Mat X.K C S) (e :: es) σ m vs m1)
    (hsp : SpM (Mat X.K C S) sp (.ref S.G.a :: vs) m1 v m2) (hx : fldNames.all (fun f : Str => !(x == f)) = true := by decide +kernel)
    (hst : starEach (e :: es) X.env = (false, eval e X.env) :: starEach es X.env := by rfl) (hpl : (backTo pos (starEach es X.env)).any (·.1) = false := by rfl)
    (ht : eval (.Call (.Attribute o x apos) (e :: es) [] pos) X.env = (do
      let ov ← eval o X.env
      standAt apos.atName
      let (f, first) ← holding [ov] (getMethod ov x pl)
      callWith pos f first (backTo pos (starEach (e :: es) X.env)) (backToKw pos (keywordEach [] X.env))) := by rfl) : ME X (Mat X.K C S) (.Call (.Attribute o x apos) (e :: es) [] pos) σ m v m2 := by
  obtain ⟨fd, F, hb, hk, _⟩ := F.ex
  obtain ⟨to, po, qo⟩ := ho.ex
  obtain ⟨ta, pa, qa⟩ := ha.ex
  refine ⟨_, pe_meth po c hm F hr hb .nil pass0 pa hst hpl ht, fun H Q h k => qo H _ h fun H1 h1 => ⟨S.G.a, S.G.dx, _, rfl, h1.obj, flds_none hx, ?_⟩⟩
  refine qa H1 _ h1 fun H2 h2 => ?_
  show sp (.ref S.G.a :: (vs ++ [])) H2 Q E0
  rw [List.append_nil]
  exact hsp H2 Q h2 k
theorem me_meth0 {x : Str} {k : Nat} {f : Addr} {ps : List Str} {sp : Sp} {apos : Pos} {pl : Sem Bool} (F : FH X.prog X.w X.K X.mg X.base k f ps sp) (hr : Room k X.A) (c : Cls X.K C) (hm : Meth X.K C x f) (ho : ME X (Mat X.K C S) o σ m (.ref S.G.a) m)
    (hsp : SpM (Mat X.K C S) sp [.ref S.G.a] m v m2) (hx : fldNames.all (fun f : Str => !(x == f)) = true := by decide +kernel)
    (ht : eval (.Call (.Attribute o x apos) [] [] pos) X.env = (do
      let ov ← eval o X.env
      standAt apos.atName
      let (f, first) ← holding [ov] (getMethod ov x pl)
      callWith pos f first (backTo pos (starEach [] X.env)) (backToKw pos (keywordEach [] X.env))) := by rfl) : ME X (Mat X.K C S) (.Call (.Attribute o x apos) [] [] pos) σ m v m2 := by
  obtain ⟨fd, F, hb, hk, _⟩ := F.ex
  obtain ⟨to, po, qo⟩ := ho.ex
  refine ⟨_, pe_meth0 po c hm F hr hb .nil pass0 ht, fun H Q h k => qo H _ h fun H1 h1 => ⟨S.G.a, S.G.dx, _, rfl, h1.obj, flds_none hx, ?_⟩⟩
  exact hsp H1 Q h1 k
/-! the object's parts: self stands in the slot's expression o -/
theorem flds_get {G : Ad} {pc : Nat} {ov : Bool} : (flds G pc ov).lookup ("code" : Str) = some (.ref G.c) ∧ (flds G pc ov).lookup ("data" : Str) = some (.ref G.d) ∧ (flds G pc ov).lookup ("at" : Str) = some (.int (pc : Int)) ∧
    (flds G pc ov).lookup ("over" : Str) = some (.bl ov) ∧ (flds G pc ov).lookup ("names" : Str) = some (.ref G.n) ∧ (flds G pc ov).lookup ("lengths" : Str) = some (.ref G.l) := by
  have b (x y : Str) (h : (x == y) = false) : (x == y) = false := h
  refine ⟨?_, ?_, ?_, ?_, ?_, ?_⟩ <;> unfold flds
  · simp only [List.lookup, beq_self_eq_true]
  · simp only [List.lookup, b "data" "code" (by decide +kernel), beq_self_eq_true]
  · simp only [List.lookup, b "at" "code" (by decide +kernel), b "at" "data" (by decide +kernel), beq_self_eq_true]
  · simp only [List.lookup, b "over" "code" (by decide +kernel), b "over" "data" (by decide +kernel), b "over" "at" (by decide +kernel), beq_self_eq_true]
  · simp only [List.lookup, b "names" "code" (by decide +kernel), b "names" "data" (by decide +kernel), b "names" "at" (by decide +kernel), b "names" "over" (by decide +kernel), beq_self_eq_true]
  · simp only [List.lookup, b "lengths" "code" (by decide +kernel), b "lengths" "data" (by decide +kernel), b "lengths" "at" (by decide +kernel), b "lengths" "over" (by decide +kernel), b "lengths" "names" (by decide +kernel), beq_self_eq_true]
theorem put_here {f : Str} {v x : V} {r : List (Str × V)} : putF f v ((f, x) :: r) = (f, v) :: r := if_pos rfl
theorem put_past {f g : Str} {v x : V} {r : List (Str × V)} (h : ¬ g = f) : putF f v ((g, x) :: r) = (g, x) :: putF f v r := if_neg h
theorem flds_at {G : Ad} {pc q : Nat} {ov : Bool} : putF ("at" : Str) (.int (q : Int)) (flds G pc ov) = flds G q ov := by
  unfold flds
  rw [put_past (by decide +kernel), put_past (by decide +kernel), put_here]
theorem flds_over {G : Ad} {pc : Nat} {ov q : Bool} : putF ("over" : Str) (.bl q) (flds G pc ov) = flds G pc q := by
  unfold flds
  rw [put_past (by decide +kernel), put_past (by decide +kernel), put_past (by decide +kernel), put_here]
theorem me_fld {f : Str} (c : Cls X.K C) (n : NoAttr X.K C f) (ho : ME X (Mat X.K C S) o σ m (.ref S.G.a) m) (l : ∀ pc, pc = m.pc → (flds S.G pc S.ov).lookup f = some v) (hb : attributeBase o f X.env (eval o X.env) = eval o X.env := by rfl) : ME X (Mat X.K C S) (.Attribute o f pos) σ m v m := by
  obtain ⟨t, p, q⟩ := ho.ex
  exact ⟨_, pe_fld p hb, fun H Q h k => q H _ h fun H1 h1 => ⟨_, _, _, _, _, rfl, h1.obj, c, n, l _ rfl, k H1 h1⟩⟩
theorem me_at (c : Cls X.K C) (n : NoAttr X.K C "at") (ho : ME X (Mat X.K C S) o σ m (.ref S.G.a) m) (hb : attributeBase o "at" X.env (eval o X.env) = eval o X.env := by rfl) : ME X (Mat X.K C S) (.Attribute o "at" pos) σ m (.int (m.pc : Int)) m :=
  me_fld c n ho (fun pc e => by rw [← e]; exact flds_get.2.2.1) hb
theorem me_codeF (c : Cls X.K C) (n : NoAttr X.K C "code") (ho : ME X (Mat X.K C S) o σ m (.ref S.G.a) m) (hb : attributeBase o "code" X.env (eval o X.env) = eval o X.env := by rfl) : ME X (Mat X.K C S) (.Attribute o "code" pos) σ m (.ref S.G.c) m :=
  me_fld c n ho (fun pc e => flds_get.1) hb
theorem me_dataF (c : Cls X.K C) (n : NoAttr X.K C "data") (ho : ME X (Mat X.K C S) o σ m (.ref S.G.a) m) (hb : attributeBase o "data" X.env (eval o X.env) = eval o X.env := by rfl) : ME X (Mat X.K C S) (.Attribute o "data" pos) σ m (.ref S.G.d) m :=
  me_fld c n ho (fun pc e => flds_get.2.1) hb
theorem get_lt (m : Sf43.M) (a : Nat) : m.get a < 256 := (m.data.getD (a % 65536) 0).toNat_lt
theorem data_at {i : Nat} (hl : m.data.length = 65536) (hi : i < 65536) : (m.data.map byteV)[i]? = some (.int ((m.get i : Nat) : Int)) := by
  rw [List.getElem?_map, List.getElem?_eq_getElem (by omega)]
  show some (byteV m.data[i]) = some (.int (((m.data.getD (i % 65536) 0).toNat : Nat) : Int))
  rw [Nat.mod_eq_of_lt hi, List.getD_eq_getElem?_getD, List.getElem?_eq_getElem (by omega)]
  rfl
/-- self.data[i] -/
theorem me_dataIx {i : Nat} (ho : ME X (Mat X.K C S) a σ m (.ref S.G.d) m) (hi : ME X (Mat X.K C S) b σ m (.int (i : Int)) m1) (hlt : i < 65536) (hs : PlainIx b := by exact fun _ _ => rfl) : ME X (Mat X.K C S) (.Subscript a b pos) σ m (.int ((m1.get i : Nat) : Int)) m1 := by
  obtain ⟨ta, pa, qa⟩ := ho.ex
  obtain ⟨tb, pb, qb⟩ := hi.ex
  refine ⟨_, pe_ix ix_list pa pb hs, fun H Q h k => qa H _ h fun H1 h1 => qb H1 _ h1 fun H2 h2 => ⟨_, _, _, _, rfl, rfl, SqL.of h2.dat, ?_, k H2 h2⟩⟩
  exact atI_nat (data_at h2.len hlt)
/-- self.data[i] = x -/
theorem ms_dataPut {x i : Nat} {p' : Pos} (he : ME X (Mat X.K C S) e σ m (.int (x : Int)) m1) (ho : ME X (Mat X.K C S) a σ m1 (.ref S.G.d) m1) (hi : ME X (Mat X.K C S) b σ m1 (.int (i : Int)) m2) (hlt : i < 65536) (hx : x < 256)
    (ha : ∀ z, assign (.Subscript a b p') X.env z = (do
      let lv ← holding [z] (eval a X.env)
      let jv ← holding [z, lv] (eval b X.env)
      standAt p'
      holding [z, lv, jv] (setItem lv jv z)
      release [z, lv, jv] []) := by intro _; rfl) (hs : swapsWithSole [.Subscript a b p'] e pos.line X.env = pure false := by rfl) (hw : swappedStores [.Subscript a b p'] e X.env = pure none := by rfl)
    (h1 : (assignEach [.Subscript a b p'] X.env).map (·.2) = [assign (.Subscript a b p') X.env] := by rfl) : MS X (Mat X.K C S) (.Assign [.Subscript a b p'] e pos) σ m (.nx σ (m2.set i x)) := by
  obtain ⟨t, p, q⟩ := he.ex
  obtain ⟨ta, pa, qa⟩ := ho.ex
  obtain ⟨tb, pb, qb⟩ := hi.ex
  refine ⟨_, ps_asg p (pg_sub pa pb set_list ha) hs hw h1, fun D H h k => q H _ h fun H1 h1 => qa H1 _ h1 fun H2 h2 => qb H2 _ h2 fun H3 h3 => ?_⟩
  refine ⟨_, _, _, i, rfl, rfl, h3.dat, ?_, ?_⟩
  · rw [List.length_map, h3.len]
    unfold ixN
    rw [if_pos (Int.natCast_nonneg i), if_pos (by omega)]
    rfl
  · have e : (m2.data.map byteV).set i (.int (x : Int)) = (m2.set i x).data.map byteV := by
      rw [set_data, List.map_set, Nat.mod_eq_of_lt hlt]
      have e2 : byteV (UInt8.ofNat (x % 256)) = .int (x : Int) := by
        unfold byteV
        rw [Nat.mod_eq_of_lt hx, UInt8.toNat_ofNat', Nat.mod_eq_of_lt (by simpa using hx)]
      rw [e2]
    rw [e]
    refine k _ (h3.put rfl ?_)
    rw [set_data, List.length_set]
    exact h3.len
/-- self.at = q -/
theorem ms_atPut {q : Nat} {p' : Pos} (c : Cls X.K C) (n : NoAttr X.K C "at") (he : ME X (Mat X.K C S) e σ m (.int (q : Int)) m1) (ho : ME X (Mat X.K C S) o σ m1 (.ref S.G.a) m1) (hq : q < 65536) (hs : swapsWith e (some (.Attribute o "at" p')) pos.line X.env = pure false := by rfl) :
    MS X (Mat X.K C S) (.Assign [.Attribute o "at" p'] e pos) σ m (.nx σ { m1 with pc := q }) := by
  obtain ⟨t, p, r⟩ := he.ex
  obtain ⟨to, po, ro⟩ := ho.ex
  refine ⟨_, ps_fld po p hs, fun D H h k => r H _ h fun H1 h1 => ro H1 _ h1 fun H2 h2 => ⟨_, _, _, _, rfl, h2.obj, c, n, ?_, ?_⟩⟩
  · show 6 < 1000
    decide
  · rw [flds_at]
    exact k _ (h2.go hq)
end
/-! ### promises -/
theorem fd_at {K : PySem.W.Frag} {x q : Str} {ar : Arguments} {bd : List Stmt} {sc : Scope} {f : Addr} {fd : FuncData} (F : FunD K x q ar bd sc [] [] f fd) : ∃ oc od osl, K.lookup f = some ⟨oc, od, .func fd, osl⟩ := by
  obtain ⟨oc, od, dV, kV, doc, pm, an, cdv, ct, osl, rfl, lk, _⟩ := F.ex
  exact ⟨oc, od, osl, lk⟩
theorem fd_one {K : PySem.W.Frag} {f : Addr} {fd fd' : FuncData} (h : ∃ oc od osl, K.lookup f = some ⟨oc, od, .func fd, osl⟩) (h' : ∃ oc od osl, K.lookup f = some ⟨oc, od, .func fd', osl⟩) : fd = fd' := by
  obtain ⟨_, _, _, e⟩ := h
  obtain ⟨_, _, _, e'⟩ := h'
  rw [e] at e'
  have z := Option.some.inj e'
  exact Data.func.inj (congrArg Obj.data z)
/-- a def of the text, from its body -/
theorem FH.mk' {P : Program} {w : World} {K : PySem.W.Frag} {mg : Str → Option Value} {base : Heap} {k : Nat} {f : Addr} {N ps : List Str} {sp : Sp} {x q : Str} {st : Stmt} (F : ∃ fd, FunD K x q (defArgs st) (defBody st) (defScope st) [] [] f fd) (Sc : FnScope N ps (defScope st))
    (hb : ∀ (kV doc pm : Value) (an : Option Addr) (cdv ct : Value) (us : List Value), us.length = ps.length → bindArgs (PySem.W.fnOf x q (defArgs st) (defBody st) (defScope st) .none kV doc pm an cdv ct) ⟨us, []⟩ = pure (ps.zip us))
    (len : ∀ vs H Q E, sp vs H Q E → vs.length = ps.length)
    (hbody : ∀ (cdv : Value) (A : Around) (outer : List Env) (s : Shared) (H : Hp) (vs : List V) (Q : VK) (E : XK), Room k (A.deeper (envOfC q (defScope st) s.heap.objs.size f cdv)) → sp vs H Q E →
      ∃ (I : Iv) (m : Sf43.M) (o : Out), I m H ∧ MB (cxOf CX0 P w K mg base N q (defScope st) f cdv A outer s H E).nox I (defBody st) (start N vs) m o ∧ o.fin I { nx := fun _ H' => Q .non H', rt := Q }) : FH P w K mg base (k + 1) f ps sp := by
  obtain ⟨fd, F⟩ := F
  refine ⟨fd, F.ok Sc len fun cdv A outer s H vs Q E hr h => ?_, F.bindsN hb, F.kp, fd_at F⟩
  obtain ⟨I, m, o, hI, hm, hf⟩ := hbody cdv A outer s H vs Q E hr h
  obtain ⟨t, p, q⟩ := hm.ex
  exact ⟨t, p.nox, q _ H hI hf⟩
/-- the same by a reading -/
theorem FH.mkR {P : Program} {w : World} {K : PySem.W.Frag} {mg : Str → Option Value} {base : Heap} {k : Nat} {f : Addr} {N ps : List Str} {sp : Sp} {x q : Str} {st : Stmt} (F : ∃ fd, FunD K x q (defArgs st) (defBody st) (defScope st) [] [] f fd) (Sc : FnScope N ps (defScope st))
    (hb : ∀ (kV doc pm : Value) (an : Option Addr) (cdv ct : Value) (us : List Value), us.length = ps.length → bindArgs (PySem.W.fnOf x q (defArgs st) (defBody st) (defScope st) .none kV doc pm an cdv ct) ⟨us, []⟩ = pure (ps.zip us))
    (len : ∀ vs H Q E, sp vs H Q E → vs.length = ps.length)
    (hbody : ∀ (cdv : Value) (A : Around) (outer : List Env) (s : Shared) (H : Hp) (vs : List V) (Q : VK) (E : XK), Room k (A.deeper (envOfC q (defScope st) s.heap.objs.size f cdv)) → sp vs H Q E →
      ∃ t, PSs (cxOf CX0 P w K mg base N q (defScope st) f cdv A outer s H E).nox (defBody st) t ∧ t { nx := fun _ H' => Q .non H', rt := Q } (start N vs) H) : FH P w K mg base (k + 1) f ps sp := by
  obtain ⟨fd, F⟩ := F
  refine ⟨fd, F.ok Sc len fun cdv A outer s H vs Q E hr h => ?_, F.bindsN hb, F.kp, fd_at F⟩
  obtain ⟨t, p, q⟩ := hbody cdv A outer s H vs Q E hr h
  exact ⟨t, p.nox, q⟩
theorem FH.mono {P : Program} {w : World} {K : PySem.W.Frag} {mg : Str → Option Value} {base : Heap} {j k : Nat} {f : Addr} {ps : List Str} {sp : Sp} (F : FH P w K mg base j f ps sp) (h : j ≤ k) : FH P w K mg base k f ps sp := by
  obtain ⟨fd, F, b, kp, l⟩ := F.ex
  exact ⟨fd, F.mono h, b, kp, l⟩
/-- a number of a word | a number with a sign of a word -/
def spI (f : Nat → Nat) : Sp := fun vs H Q _ => ∃ w : Nat, vs = [.int (w : Int)] ∧ w < 65536 ∧ Q (.int ((f w : Nat) : Int)) H
def spZ (f : Nat → Int) : Sp := fun vs H Q _ => ∃ w : Nat, vs = [.int (w : Int)] ∧ w < 65536 ∧ Q (.int (f w)) H
theorem spm_I {S : Iv} {f : Nat → Nat} {w : Nat} {m : Sf43.M} (hw : w < 65536) : SpM S (spI f) [.int (w : Int)] m (.int ((f w : Nat) : Int)) m := fun H Q h k => ⟨w, rfl, hw, k H h⟩
theorem spm_Z {S : Iv} {f : Nat → Int} {w : Nat} {m : Sf43.M} (hw : w < 65536) : SpM S (spZ f) [.int (w : Int)] m (.int (f w)) m := fun H Q h k => ⟨w, rfl, hw, k H h⟩
/-- of a state: R tells the answer and the machine then -/
def spG (K : PySem.W.Frag) (C : Addr) (R : Mc → List V → Sf43.M → V → Sf43.M → Prop) : Sp := fun vs H Q _ => ∃ (S : Mc) (args : List V) (m : Sf43.M) (v : V) (m' : Sf43.M), vs = .ref S.G.a :: args ∧ R S args m v m' ∧ Mat K C S m H ∧ ∀ H', Mat K C S m' H' → Q v H'
theorem spm_G {K : PySem.W.Frag} {C : Addr} {R : Mc → List V → Sf43.M → V → Sf43.M → Prop} {S : Mc} {args : List V} {m m' : Sf43.M} {v : V} (h : R S args m v m') : SpM (Mat K C S) (spG K C R) (.ref S.G.a :: args) m v m' := fun H Q hm k => ⟨S, args, m, v, m', rfl, h, hm, k⟩
end Bc
namespace Bc
open PySem PySem.Spec PyProof.Rows L2
/-! ### words of the program: names, lengths -/
def wordV (cd : List Nat) (i : Nat) : V := match cd[i]? with
  | some x => .int ((x : Nat) : Int)
  | none => .non
/-- name_of(word) -/
def spName : Sp := fun vs H Q _ => ∃ w : Nat, vs = [.int (w : Int)] ∧ Q (nameV w) H
/-- word_at(code, place), the place not negative -/
def spWordAt (K : PySem.W.Frag) : Sp := fun vs H Q _ => ∃ (c : Addr) (cd : List Nat) (p : Nat), vs = [.ref c, .int (p : Int)] ∧ SqL K H c (cd.map fun x => V.int ((x : Nat) : Int)) ∧ Q (wordV cd (p % 65536)) H
/-- length_at(code, place) -/
def spLen (K : PySem.W.Frag) : Sp := fun vs H Q _ => ∃ (c : Addr) (cd : List Nat) (p : Nat), vs = [.ref c, .int (p : Int)] ∧ SqL K H c (cd.map fun x => V.int ((x : Nat) : Int)) ∧ cd.length ≤ 60000 ∧ (∀ x ∈ cd, x < 65536) ∧ p < 65536 ∧ Q (.int ((lenOf cd p : Nat) : Int)) H
theorem take_no {w i : Nat} {e : Nat × Nat × String} {l : List (Nat × Nat × String)} (h : ∀ e ∈ l.take i, ¬ w &&& e.1 = e.2.1) (he : l[i]? = some e) (n : ¬ w &&& e.1 = e.2.1) : ∀ e ∈ l.take (i + 1), ¬ w &&& e.1 = e.2.1 := by
  rw [List.take_add_one, he]
  intro x hx
  rcases List.mem_append.mp hx with z | z
  · exact h x z
  · rw [show x = e by simpa using z]
    exact n
theorem find_at {w : Nat} : ∀ {l : List (Nat × Nat × String)} {i : Nat} {e : Nat × Nat × String}, (∀ e ∈ l.take i, ¬ w &&& e.1 = e.2.1) → l[i]? = some e → w &&& e.1 = e.2.1 → l.find? (fun e => w &&& e.1 == e.2.1) = some e
  | [], _, _, _, he, _ => by simp at he
  | x :: l, 0, e, _, he, y => by
    have e1 : x = e := by simpa using he
    subst e1
    rw [List.find?_cons_of_pos]
    exact beq_iff_eq.mpr y
  | x :: l, i + 1, e, h, he, y => by
    have h1 : ¬ w &&& x.1 = x.2.1 := h x (by simp)
    rw [List.find?_cons_of_neg (by simpa using h1)]
    exact find_at (i := i) (fun z hz => h z (by simp [hz])) (by simpa using he) y
section
variable {P : Program} {w : World} {K : PySem.W.Frag} {mg : Str → Option Value} {base : Heap}
theorem sc_name_of : FnScope ["word", "told", "due", "name"] ["word"] (defScope s_name_of) := ⟨rfl, rfl, rfl, by decide +kernel, rfl, by decide +kernel, by decide +kernel⟩
theorem fh_name_of (T : Tx K mg w) : FH P w K mg base 1 (He.ga K "name_of") ["word"] spName := by
  refine FH.mkR (f_name_of T) sc_name_of (fun _ _ _ _ _ _ us hl => match us, hl with | [_], _ => rfl) ?_ ?_
  · rintro vs H Q E ⟨x, rfl, _⟩
    rfl
  rintro cdv A outer s H vs Q E hr ⟨x, rfl, hq⟩
  refine ⟨_, pss_cons (ps_for PassesOwn.never rfl (pi_tup (pe_glob (v := .ref (He.ga K "TABLE")) rfl (g_TABLE T) rfl)) (pg_tup rfl (pgs_cons (pg_name (i := 1) sc_name_of.nd rfl (Or.inl rfl)) (pgs_cons (pg_name (i := 2) sc_name_of.nd rfl (Or.inl rfl)) (pgs_cons (pg_name (i := 3) sc_name_of.nd rfl (Or.inl rfl)) pgs_nil))))
    (pss_one (ps_if (pt_cmpR op_eq (pe_op op_and (pv 0) (pv 1)) (pv 2) (nomark _)) (pss_one (ps_ret (pv 3))) pss_nil))) (pss_one (ps_ret pe_non)), ?_⟩
  obtain ⟨ps, hT, hP⟩ := T.tab
  refine ⟨He.ga K "TABLE", rfl, ⟨_, hT H⟩, for_tup (K := K) (a := He.ga K "TABLE") (xs := ps.map V.ref) (fun i σ H' => H' = H ∧ (∃ a b c : Option V, σ = [some (.int (x : Int)), a, b, c]) ∧ ∀ e ∈ tab.take i, ¬ x &&& e.1 = e.2.1) ?_ ?_ ?_ ?_⟩
  · exact ⟨rfl, ⟨_, _, _, rfl⟩, by simp⟩
  · rintro i σ H' _ ⟨rfl, _⟩
    exact hT _
  · rintro i v σ H' hv ⟨rfl, ⟨a, b, c, rfl⟩, hn⟩
    rw [List.getElem?_map] at hv
    cases hp : ps[i]? with
    | none =>
      rw [hp] at hv
      cases hv
    | some p =>
      rw [hp] at hv
      cases hv
      obtain ⟨e, he, hrow⟩ := paired_get hP hp
      refine ⟨p, _, rfl, rowB_ok hrow H', rfl, _, _, rfl, _, _, rfl, _, _, rfl, rfl, ?_⟩
      refine ⟨_, rfl, _, rfl, _, _, rfl, rfl, _, rfl, rfl, _, rfl, ?_⟩
      by_cases y : x &&& e.1 = e.2.1
      · have d : decide (V.int (Builtin.bitAnd (x : Int) (e.1 : Int)) = V.int (e.2.1 : Int)) = true := by
          rw [bitAnd_nat, y]
          exact decide_eq_true rfl
        refine (if_pos d).mpr ⟨_, rfl, ?_⟩
        have q : nameV x = .str (Str.ofString e.2.2) := by
          unfold nameV entOf
          rw [find_at hn he y]
        rw [← q]
        exact hq
      · have d : decide (V.int (Builtin.bitAnd (x : Int) (e.1 : Int)) = V.int (e.2.1 : Int)) = false := by
          rw [bitAnd_nat]
          exact decide_eq_false fun z => y (by
            have := V.int.inj z
            omega)
        have d2 : ¬ decide (V.int (Builtin.bitAnd (x : Int) (e.1 : Int)) = V.int (e.2.1 : Int)) = true := by
          rw [d]
          exact Bool.false_ne_true
        exact (if_neg d2).mpr ⟨rfl, ⟨_, _, _, rfl⟩, take_no hn he y⟩
  · rintro σ H' ⟨rfl, _, hn⟩
    have hl : (ps.map V.ref).length = tab.length := by
      rw [List.length_map]
      exact Paired.length hP
    rw [hl, List.take_length] at hn
    have q : nameV x = .non := by
      unfold nameV entOf
      rw [List.find?_eq_none.mpr fun e he => by simpa using hn e he]
    show Q .non H'
    rw [← q]
    exact hq
theorem sc_word_at : FnScope ["code", "place"] ["code", "place"] (defScope s_word_at) := ⟨rfl, rfl, rfl, by decide +kernel, rfl, by decide +kernel, by decide +kernel⟩
theorem fh_word_at (T : Tx K mg w) : FH P w K mg base 1 (He.ga K "word_at") ["code", "place"] (spWordAt K) := by
  refine FH.mkR (f_word_at T) sc_word_at (fun _ _ _ _ _ _ us hl => match us, hl with | [_, _], _ => rfl) ?_ ?_
  · rintro vs H Q E ⟨c, cd, p, rfl, _⟩
    rfl
  rintro cdv A outer s H vs Q E hr ⟨c, cd, p, rfl, hS, hq⟩
  refine ⟨_, pss_cons (ps_set (i := 1) sc_word_at.nd rfl (Or.inl rfl) (pe_op op_mod (pv 1) pe_int)) (pss_cons (ps_if (pt_cmpR op_lt (pv 1) (pe_callB call_len_seq (by rfl) (no_len T) PySem.boot_len (pa_cons (pv 0) pa_nil)) (nomark _))
    (pss_one (ps_ret (pe_ix ix_list (pv 0) (pv 1) (fun _ _ => rfl)))) pss_nil) (pss_one (ps_ret pe_non))), ?_⟩
  refine ⟨_, rfl, _, _, rfl, rfl, (by show (0 : Int) < 65536; decide), ?_⟩
  refine ⟨_, rfl, _, rfl, _, _, rfl, .inl hS, _, _, rfl, rfl, _, rfl, ?_⟩
  have e1 : ((p : Int) % 65536) = ((p % 65536 : Nat) : Int) := by omega
  rw [List.length_map]
  by_cases l : p % 65536 < cd.length
  · refine (if_pos (decide_eq_true (by omega))).mpr ?_
    refine ⟨_, rfl, _, rfl, _, _, _, _, rfl, rfl, hS, ?_, hq⟩
    rw [e1]
    refine atI_nat ?_
    rw [List.getElem?_map, List.getElem?_eq_getElem l]
    unfold wordV
    rw [List.getElem?_eq_getElem l]
    rfl
  · refine (if_neg (by rw [decide_eq_true_eq]; omega)).mpr ?_
    have q : wordV cd (p % 65536) = .non := by
      unfold wordV
      rw [List.getElem?_eq_none (by omega)]
    show Q .non H
    rw [← q]
    exact hq
theorem two_all : ∀ e ∈ tab, inV (.str (Str.ofString e.2.2)) [.str "lds", .str "sts", .str "jmp", .str "call"] = two e.2.2 := by decide +kernel
theorem sc_length_at : FnScope ["code", "place", "word", "name"] ["code", "place"] (defScope s_length_at) := ⟨rfl, rfl, rfl, by decide +kernel, rfl, by decide +kernel, by decide +kernel⟩
theorem fh_length_at (T : Tx K mg w) : FH P w K mg base 2 (He.ga K "length_at") ["code", "place"] (spLen K) := by
  obtain ⟨fdW, FW, bW, kW, _⟩ := (fh_word_at (P := P) (base := base) T).ex
  obtain ⟨fdN, FN, bN, kN, _⟩ := (fh_name_of (P := P) (base := base) T).ex
  refine FH.mkR (f_length_at T) sc_length_at (fun _ _ _ _ _ _ us hl => match us, hl with | [_, _], _ => rfl) ?_ ?_
  · rintro vs H Q E ⟨c, cd, p, rfl, _⟩
    rfl
  rintro cdv A outer s H vs Q E hr ⟨c, cd, p, rfl, hS, hl, hw, hp, hq⟩
  refine ⟨_, pss_cons (ps_set (i := 2) sc_length_at.nd rfl (Or.inl rfl) (pe_call FW hr (by rfl) (g_word_at T) kW bW .nil pass0 (pa_cons (pv 0) (pa_cons (pv 1) pa_nil))))
    (pss_cons (ps_if (pt_cmp (pc_isN (pv 2)) rfl) (pss_one (ps_ret pe_int)) pss_nil)
    (pss_cons (ps_set (i := 3) sc_length_at.nd rfl (Or.inl rfl) (pe_call FN hr (by rfl) (g_name_of T) kN bN .nil pass0 (pa_cons (pv 2) pa_nil)))
    (pss_cons (ps_if (pt_cmp (pc_isN (pv 3)) rfl) (pss_one (ps_ret pe_int)) pss_nil)
    (pss_cons (ps_if (pt_cmpR op_notIn_seq (pv 3) (pe_glob (v := .ref (He.ga K "TWO_WORDS")) rfl (g_TWO_WORDS T) rfl) (by with_unfolding_all rfl)) (pss_one (ps_ret pe_int)) pss_nil)
    (pss_cons (ps_if (pt_cmp (pc_isN (pe_call FW hr (by rfl) (g_word_at T) kW bW .nil pass0 (pa_cons (pv 0) (pa_cons (pe_op op_add (pv 1) pe_int) pa_nil)))) rfl) (pss_one (ps_ret pe_int)) pss_nil) (pss_one (ps_ret pe_int))))))), ?_⟩
  refine ⟨_, rfl, _, rfl, c, cd, p, rfl, hS, ?_⟩
  rw [Nat.mod_eq_of_lt hp]
  refine ⟨_, rfl, _, rfl, ?_⟩
  cases hc : cd[p]? with
  | none =>
    have q : wordV cd p = .non := by unfold wordV; rw [hc]
    rw [q]
    refine (if_pos (decide_eq_true rfl)).mpr ?_
    rw [len_noword hc] at hq
    exact hq
  | some x =>
    have q : wordV cd p = .int (x : Int) := by unfold wordV; rw [hc]
    have hx : x < 65536 := hw x (List.mem_of_getElem? hc)
    rw [q]
    refine (if_neg (by simp)).mpr ?_
    refine ⟨_, rfl, x, rfl, ?_⟩
    refine ⟨_, rfl, _, rfl, ?_⟩
    cases he : entOf x with
    | none =>
      have q : nameV x = .non := by unfold nameV; rw [he]
      rw [q]
      refine (if_pos (decide_eq_true rfl)).mpr ?_
      rw [len_noname hc hx he] at hq
      exact hq
    | some e =>
      have q : nameV x = .str (Str.ofString e.2.2) := by unfold nameV; rw [he]
      rw [q]
      refine (if_neg (by simp)).mpr ?_
      refine ⟨_, rfl, _, _, rfl, .inr (T.two H), rfl, rfl, _, rfl, ?_⟩
      have t2 : (if true = true then !inV (.str (Str.ofString e.2.2)) [.str "lds", .str "sts", .str "jmp", .str "call"] else inV (.str (Str.ofString e.2.2)) [.str "lds", .str "sts", .str "jmp", .str "call"]) = !two e.2.2 := by
        rw [if_pos rfl, two_all e (find_ent he).1]
      rw [t2]
      cases ht : two e.2.2 with
      | false =>
        refine (if_pos rfl).mpr ?_
        rw [len_one hc hx he ht] at hq
        exact hq
      | true =>
        refine (if_neg (by simp)).mpr ?_
        refine ⟨_, rfl, _, rfl, _, _, rfl, rfl, c, cd, p + 1, rfl, hS, ?_⟩
        have lt : p < cd.length := (List.getElem?_eq_some_iff.mp hc).1
        rw [Nat.mod_eq_of_lt (by omega)]
        refine ⟨_, rfl, ?_⟩
        rw [len_two hc hx he ht] at hq
        cases hd : cd[p + 1]? with
        | none =>
          rw [hd, if_pos rfl] at hq
          have q : wordV cd (p + 1) = .non := by unfold wordV; rw [hd]
          rw [q]
          exact (if_pos (decide_eq_true rfl)).mpr hq
        | some y =>
          rw [hd, if_neg (by simp)] at hq
          have q : wordV cd (p + 1) = .int (y : Int) := by unfold wordV; rw [hd]
          rw [q]
          exact (if_neg (by simp)).mpr hq
end
end Bc
namespace Bc
open PySem PySem.Spec PyProof.Rows L2
theorem run (w : World) : HandSHeadRun.RunEqS R (PySem.W.view R.prog [10]) hk ob 3000 loose w := by
  intro os
  kernel_rfl
end Bc
namespace Bc
open PySem PySem.Spec PyProof.Rows L2
/-- words(n, at, code) -/
def spWords (K : PySem.W.Frag) : Sp := fun vs H Q _ => ∃ (n a : Int) (c : Addr) (cd : List Nat), vs = [.int n, .int a, .ref c] ∧ SqL K H c (cd.map fun x => V.int ((x : Nat) : Int)) ∧ cd.length ≤ 60000 ∧ (∀ x ∈ cd, x < 65536) ∧
  ((cd.length : Int) = if 0 ≤ n ∧ n ≤ 65536 then n else 0) ∧ ∀ (H' : Hp) (p : Addr), H' p = some (.lst [.int (Sf43.spec (.words n a cd)).value]) → Q (.ref p) H'
section
variable {P : Program} {w : World} {K : PySem.W.Frag} {mg : Str → Option Value} {base : Heap}
theorem sc_words : FnScope ["n", "at", "code", "many"] ["n", "at", "code"] (defScope s_words) := ⟨rfl, rfl, rfl, by decide +kernel, rfl, by decide +kernel, by decide +kernel⟩
theorem words_bad {n a : Int} {cd : List Nat} (h : ¬ (1 ≤ n ∧ n ≤ 65536 ∧ 0 ≤ a ∧ a < n)) : (Sf43.spec (.words n a cd)).value = -1 := by
  unfold Sf43.spec
  dsimp only
  rw [if_neg]
  intro z
  obtain ⟨z1, z2, z3⟩ := z
  unfold Sf43.size at z1
  rw [Bool.and_eq_true, decide_eq_true_eq, decide_eq_true_eq] at z1
  omega
theorem words_good {n a : Int} {cd : List Nat} (h : 1 ≤ n ∧ n ≤ 65536 ∧ 0 ≤ a ∧ a < n) : (Sf43.spec (.words n a cd)).value = if lenOf cd a.toNat = 0 then -2 else ((lenOf cd a.toNat : Nat) : Int) := by
  unfold Sf43.spec
  dsimp only
  rw [if_pos]
  · unfold lenOf
    cases e : Sf43.insnAt cd a.toNat with
    | none => rfl
    | some i =>
      show ((Sf43.wordsOf i : Nat) : Int) = if Sf43.wordsOf i = 0 then -2 else ((Sf43.wordsOf i : Nat) : Int)
      rw [if_neg]
      unfold Sf43.wordsOf
      split <;> decide
  · refine ⟨?_, h.2.2⟩
    unfold Sf43.size
    rw [decide_eq_true h.1, decide_eq_true h.2.1]
    rfl
theorem fh_words (T : Tx K mg w) : FH P w K mg base 3 (He.ga K "words") ["n", "at", "code"] (spWords K) := by
  obtain ⟨fdL, FL, bL, kL, _⟩ := (fh_length_at (P := P) (base := base) T).ex
  obtain ⟨tR, gR⟩ := n_ROUND T
  obtain ⟨tB, gB⟩ := n_BAD T
  obtain ⟨tN, gN⟩ := n_NONE T
  refine FH.mkR (f_words T) sc_words (fun _ _ _ _ _ _ us hl => match us, hl with | [_, _, _], _ => rfl) ?_ ?_
  · rintro vs H Q E ⟨n, a, c, cd, rfl, _⟩
    rfl
  rintro cdv A outer s H vs Q E hr ⟨n, a, c, cd, rfl, hS, hl, hw, hn, hq⟩
  refine ⟨_, pss_cons (ps_if (PW.pt (pw_or (pt_not (pt_chain op_le op_le pe_int (pv 0) (pe_glob (v := .int 65536) rfl gR ⟨_, rfl⟩))) (pw_or1 (pt_not (pt_chain op_le op_lt pe_int (pv 1) (pv 0)))))) (pss_one (ps_ret (pe_lst (pa_cons (pe_glob (v := .int (-1)) rfl gB ⟨_, rfl⟩) pa_nil)))) pss_nil)
    (pss_cons (ps_set (i := 3) sc_words.nd rfl (Or.inl rfl) (pe_call FL hr (by rfl) (g_length_at T) kL bL .nil pass0 (pa_cons (pv 2) (pa_cons (pv 1) pa_nil))))
    (pss_cons (ps_if (pt_cmpR op_eq (pv 3) pe_int (nomark _)) (pss_one (ps_ret (pe_lst (pa_cons (pe_glob (v := .int (-2)) rfl gN ⟨_, rfl⟩) pa_nil)))) pss_nil) (pss_one (ps_ret (pe_lst (pa_cons (pv 3) pa_nil)))))), ?_⟩
  have bad (h : ¬ (1 ≤ n ∧ n ≤ 65536 ∧ 0 ≤ a ∧ a < n)) : ([V.int (-1)] : List V).length ≤ sizeLine ∧ ∀ p, H p = none → Q (.ref p) (upd H p (.lst [.int (-1)])) :=
    ⟨by show 1 ≤ sizeLine; decide, fun p hp => hq _ p (by rw [words_bad h, upd_same])⟩
  refine ⟨_, rfl, _, _, rfl, rfl, _, rfl, ?_⟩
  by_cases h1 : 1 ≤ n
  · refine (if_pos (decide_eq_true h1)).mpr ?_
    refine ⟨_, _, rfl, rfl, _, rfl, ?_⟩
    by_cases h2 : n ≤ 65536
    · refine (if_neg (by simp [h2] : ¬ (!decide (n ≤ 65536)) = true)).mpr ?_
      refine ⟨_, rfl, _, _, rfl, rfl, _, rfl, ?_⟩
      by_cases h3 : 0 ≤ a
      · refine (if_pos (decide_eq_true h3)).mpr ?_
        refine ⟨_, rfl, _, _, rfl, rfl, _, rfl, ?_⟩
        by_cases h4 : a < n
        · refine (if_neg (by simp [h4] : ¬ (!decide (a < n)) = true)).mpr ?_
          have ea : a = ((a.toNat : Nat) : Int) := by omega
          have z := words_good (cd := cd) ⟨h1, h2, h3, h4⟩
          refine ⟨_, rfl, _, rfl, c, cd, a.toNat, by rw [← ea]; rfl, hS, hl, hw, by omega, ?_⟩
          refine ⟨_, rfl, rfl, _, rfl, ?_⟩
          by_cases q : lenOf cd a.toNat = 0
          · rw [if_pos q] at z
            refine (if_pos (decide_eq_true (by rw [q]; rfl))).mpr ?_
            exact ⟨by show 1 ≤ sizeLine; decide, fun p hp => hq _ p (by rw [z, upd_same])⟩
          · rw [if_neg q] at z
            refine (if_neg (by rw [decide_eq_true_eq]; intro y; exact q (by have := V.int.inj y; omega))).mpr ?_
            exact ⟨_, rfl, by show 1 ≤ sizeLine; decide, fun p hp => hq _ p (by rw [z, upd_same])⟩
        · exact (if_pos (by simp [h4] : (!decide (a < n)) = true)).mpr (bad (by omega))
      · exact (if_neg (by rw [decide_eq_true_eq]; exact h3)).mpr ⟨_, rfl, (if_pos rfl).mpr (bad (by omega))⟩
    · exact (if_pos (by simp [h2] : (!decide (n ≤ 65536)) = true)).mpr (if_pos rfl |>.mpr (bad (by omega)))
  · exact (if_neg (by rw [decide_eq_true_eq]; exact h1)).mpr ⟨_, rfl, (if_pos rfl).mpr (bad (by omega))⟩
end
/-! ### the end -/
def SaysOf (w : World) (K : PySem.W.Frag) : Prop := He.SaysT fa fn tbs w K ∧ exB K = true
theorem ints_nat {l : List Int} (h : l.all (Sf43Neutral.word) = true) : l.map V.int = (Sf43Neutral.natsOf l).map fun x => V.int ((x : Nat) : Int) := by
  unfold Sf43Neutral.natsOf
  rw [List.map_map]
  refine List.map_congr_left fun z hz => ?_
  have y := List.all_eq_true.mp h z hz
  unfold Sf43Neutral.word Sf43Neutral.within at y
  rw [Bool.and_eq_true, decide_eq_true_eq, decide_eq_true_eq] at y
  show V.int z = V.int ((z.toNat : Nat) : Int)
  rw [Int.toNat_of_nonneg y.1]
theorem nats_lt {l : List Int} (h : l.all (Sf43Neutral.word) = true) : ∀ x ∈ Sf43Neutral.natsOf l, x < 65536 := fun x hx => by
  unfold Sf43Neutral.natsOf at hx
  obtain ⟨z, hz, rfl⟩ := List.mem_map.mp hx
  have y := List.all_eq_true.mp h z hz
  unfold Sf43Neutral.word Sf43Neutral.within at y
  rw [Bool.and_eq_true, decide_eq_true_eq, decide_eq_true_eq] at y
  omega
theorem words_is (n a : Int) (l : List Int) : PySf43.words n a l = [(Sf43.spec (.words n a (Sf43Neutral.natsOf l))).value] := by
  have e : (Sf43.spec (.words n a (Sf43Neutral.natsOf l))).data = [] ∧ (Sf43.spec (.words n a (Sf43Neutral.natsOf l))).ended = [] := by
    unfold Sf43.spec
    dsimp only
    split
    · split <;> exact ⟨rfl, rfl⟩
    · exact ⟨rfl, rfl⟩
  show Sf43Neutral.listOf (Sf43.spec (.words n a (Sf43Neutral.natsOf l))) = _
  unfold Sf43Neutral.listOf
  rw [if_pos e]
theorem end_sp (K : PySem.W.Frag) (H : Hp) (xs : List V) (a : PySem.W.Codec.denoteAll R.args) (hO : OnlyF H) (hwi : PySem.W.Codec.withinAll R.args a = true) (hask : PySem.W.Codec.app R.args R.asked a = true) (hx : DwAll K H xs (PySem.W.Codec.encAll R.args a)) :
    spWords K xs H (fun v H' => Dw K H' v (R.ret.enc (PySem.W.Codec.app R.args R.f a))) fun _ _ _ => False := by
  obtain ⟨n, at_, l, u⟩ := a
  have hx1 : DwAll K H xs [.int n, .int at_, .list (l.map PySem.W.WData.int)] := hx
  have q1 : PySf43.words_asked n at_ l = true := hask
  have q2 : (Sf43Neutral.whole32 n && Sf43Neutral.whole32 at_ && (l.all (Sf43Neutral.word) && Sf43Neutral.long l n 0 65536)) = true := by
    have z : (([[[2, n, at_], l]] : List Sf43Neutral.Call).all Sf43Neutral.asked1) = true := by
      have z1 : (!([[[2, n, at_], l]] : List Sf43Neutral.Call).isEmpty && ([[[2, n, at_], l]] : List Sf43Neutral.Call).all Sf43Neutral.asked1 && decide (Sf43Neutral.numbers Sf43Neutral.start [[[2, n, at_], l]] < 1000000)) = true := q1
      rw [Bool.and_eq_true, Bool.and_eq_true] at z1
      exact z1.1.2
    rw [List.all_cons, Bool.and_eq_true] at z
    exact z.1
  rw [Bool.and_eq_true, Bool.and_eq_true, Bool.and_eq_true] at q2
  obtain ⟨_, hw, hlong⟩ := q2
  have hlen : l.length ≤ 60000 := by
    have z : (PySem.W.Codec.inInt _ _ n && (PySem.W.Codec.inInt _ _ at_ && ((PySem.W.Codec.inLen 0 60000 l && l.all _) && true))) = true := hwi
    rw [Bool.and_eq_true, Bool.and_eq_true, Bool.and_eq_true, Bool.and_eq_true] at z
    exact (PySem.W.Codec.inNat_iff.mp z.2.2.1.1).2
  cases hx1 with
  | cons h1 h2 =>
    cases h1
    cases h2 with
    | cons h3 h4 =>
      cases h3
      cases h4 with
      | cons h5 h6 =>
        cases h6
        cases h5 with
        | @lst c ys _ hs ha =>
          have e := ints_dw l _ ha
          subst e
          rw [ints_nat hw] at hs
          refine ⟨n, at_, c, Sf43Neutral.natsOf l, rfl, hs, ?_, nats_lt hw, ?_, fun H' p hp => ?_⟩
          · unfold Sf43Neutral.natsOf
            rw [List.length_map]
            exact hlen
          · unfold Sf43Neutral.natsOf
            rw [List.length_map]
            exact of_decide_eq_true hlong
          · show Dw K H' (.ref p) (.list ((PySf43.words n at_ l).map PySem.W.WData.int))
            rw [words_is]
            exact .lst (SqL.of hp) (dw_ints [_])
end Bc
open PySem PySem.W PySem.Calls PyProof.Rows
theorem PySem.Challenge.cw_bytecore_s02_words_holds : PySem.Challenge.rw_bytecore_s02_words.Holds := by
  w_on
  refine HandSHeadRun.head_spec (r := PySem.Challenge.rw_bytecore_s02_words) (q := view PySem.Challenge.rw_bytecore_s02_words.prog [10]) (H := Bc.hk) (ob := Bc.ob) (M := 3000) (loose := Bc.loose) (d := HandSHeadRun.topDef PySem.Challenge.rw_bytecore_s02_words.prog 10) (kwd := []) Bc.ob_eq
    (by kernel_rfl) (fun s => by kernel_rfl) Bc.run (by kernel_rfl) (by kernel_rfl) (by kernel_rfl) os_shapes (by decide +kernel) (by decide +kernel) ⟨rfl, rfl, rfl, rfl, rfl, by decide +kernel⟩ ?hw ?hc
  case hw => exact ⟨[.int 0, .int 0, .list []], by decide +kernel, by decide +kernel⟩
  case hc =>
    intro w s₀ s₁ mg mb G Y fa o pm cd doc dV kV ho hd hcd hD hmg hg args vals as hpre hlay hrd hwl hlo
    obtain ⟨K, KX, c⟩ := Y
    refine L2.walk_specK (r := PySem.Challenge.rw_bytecore_s02_words) (k := 3) (YP := fun w' h => K.In h ∧ Bc.SaysOf w' K) (K := fun _ => K) (CX := L2.CX0) (ps := ["n", "at", "code"]) (sp := Bc.spWords) (by decide +kernel) rfl rfl ⟨rfl, by decide, by decide⟩ (fun _ _ z => z.1) ?F ?S (fun _ _ _ _ z => z)
      w s₀ s₁ mg mb G ⟨KX, ⟨c.t, c.more⟩⟩ fa o pm cd doc dV kV ho hd hcd hD hmg hg args vals as hpre hlay hrd hwl hlo
    case F =>
      intro w' mg' fa' h' Y' KX' G' hmg'
      have T : Bc.Tx K mg' w' := ⟨⟨h', Y'.1, G'⟩, Y'.2.1, Y'.2.2⟩
      have e0 : (HandSHeadRun.topDef PySem.Challenge.rw_bytecore_s02_words.prog 10).name = ("words" : PySem.Str) := by kernel_rfl
      rw [e0] at hmg'
      have e := hmg'.symm.trans (Bc.g_words T)
      cases e
      obtain ⟨fd, F⟩ := Bc.f_words T
      refine ⟨fd, ?_, fun base _ _ => ?_⟩
      · exact L2.FunD.bindsA (ps := ["n", "at", "code"]) F fun _ _ _ _ _ _ us hl => match us, hl with | [_, _, _], _ => rfl
      · obtain ⟨fd', F', _, _, l⟩ := (Bc.fh_words (P := PySem.Challenge.rw_bytecore_s02_words.prog) (w := w') (base := base) T).ex
        have : fd' = fd := Bc.fd_one l (Bc.fd_at F)
        subst this
        exact F'
    case S => exact fun K H xs a hO hwi hask hx => Bc.end_sp K H xs a hO hwi hask hx
#print axioms PySem.Challenge.cw_bytecore_s02_words_holds
