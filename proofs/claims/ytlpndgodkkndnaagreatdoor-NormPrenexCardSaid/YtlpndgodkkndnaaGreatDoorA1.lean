/- Contracts of the functions, part 1. -/
import Derived.Test.YtlpndgodkkndnaaGreatDoorS3
import Derived.Shelf.Strings.OnBuilder
import Derived.Test.YtlpndgodkkndnaaGreatDoorProg
import Derived.Test.YtlpndgodkkndnaaGreatDoorS3
import Derived.Test.YtlpndgodkkndnaaGreatDoorS2
namespace Go.Proofs
open Go.Shelf
def Tryz.lays156_ren : Go.Shelf.Ren := ⟨fun | 156 => 145 | 165 => 167 | 166 => 143 | 169 => 95 | 240 => 166 | 241 => 188 | 276 => 187 | 277 => 208 | n => n, fun | 31 => 22 | 9 => 9 | 3 => 3 | 4 => 4 | 0 => 0 | 20 => 20 | 72 => 123 | 76 => 175 | 70 => 120 | 37 => 121 | 75 => 174 | 127 => 182 | 164 => 215 | 5 => 5 | 80 => 126 | n => n, fun | n => n⟩
theorem Tryz.lays156 : Go.Proofs.Lays.n156 Tryz.prog Tryz.lays156_ren := {
 mixed := by kernel_rfl
 f156 := Tryz.func145.trans (congrArg some (by kernel_rfl))
 f165 := Tryz.func167.trans (congrArg some (by kernel_rfl))
 f166 := Tryz.func143.trans (congrArg some (by kernel_rfl))
 f169 := Tryz.func95.trans (congrArg some (by kernel_rfl))
 f240 := Tryz.func166.trans (congrArg some (by kernel_rfl))
 f241 := Tryz.func188.trans (congrArg some (by kernel_rfl))
 f276 := Tryz.func187.trans (congrArg some (by kernel_rfl))
 f277 := Tryz.func208.trans (congrArg some (by kernel_rfl))
 t0 := Tryz.underlying0
 a0 := Tryz.isAgg0
 z0 := Tryz.sizeOf0
 v0 := Tryz.zeroValue0
 t3 := Tryz.underlying3
 a3 := Tryz.isAgg3
 z3 := Tryz.sizeOf3
 v3 := Tryz.zeroValue3
 t4 := Tryz.underlying4
 a4 := Tryz.isAgg4
 z4 := Tryz.sizeOf4
 v4 := Tryz.zeroValue4
 t9 := Tryz.underlying9
 a9 := Tryz.isAgg9
 z9 := Tryz.sizeOf9
 v9 := Tryz.zeroValue9
 t20 := Tryz.underlying20
 a20 := Tryz.isAgg20
 z20 := Tryz.sizeOf20
 v20 := Tryz.zeroValue20
 t31 := Tryz.underlying22
 a31 := Tryz.isAgg22
 z31 := Tryz.sizeOf22
 v31 := Tryz.zeroValue22
 t37 := Tryz.underlying121
 a37 := Tryz.isAgg121
 z37 := Tryz.sizeOf121
 v37 := Tryz.zeroValue121
 t70 := Tryz.underlying120
 a70 := Tryz.isAgg120
 z70 := Tryz.sizeOf120
 v70 := Tryz.zeroValue120
 t72 := Tryz.underlying123
 a72 := Tryz.isAgg123
 z72 := Tryz.sizeOf123
 v72 := Tryz.zeroValue123
 t75 := Tryz.underlying174
 a75 := Tryz.isAgg174
 z75 := Tryz.sizeOf174
 v75 := Tryz.zeroValue174
 t76 := Tryz.underlying175
 a76 := Tryz.isAgg175
 z76 := Tryz.sizeOf175
 v76 := Tryz.zeroValue175
 t127 := Tryz.underlying182
 a127 := Tryz.isAgg182
 z127 := Tryz.sizeOf182
 v127 := Tryz.zeroValue182
 t164 := Tryz.underlying215
 a164 := Tryz.isAgg215
 z164 := Tryz.sizeOf215
 v164 := Tryz.zeroValue215 }
theorem Tryz.Builder_Extra_156 : Builder.Extra Tryz.prog Tryz.lays156_ren := {
 sizeBuilder := by kernel_rfl
 liesBuilder := by kernel_rfl
 t5 := Tryz.underlying5
 a5 := Tryz.isAgg5
 z5 := Tryz.sizeOf5
 v5 := Tryz.zeroValue5
 infoByte := by kernel_rfl
 cellsByte := by kernel_rfl
 sizeByte := by kernel_rfl
 neB5 := by decide }
open Go.RowKit in
theorem Tryz.strings_Join_none (a : Option Addr) (c : Nat) (sep : ByteArray) (w : World) :
  Calls Tryz.prog 145 #[.slice a 0 c, .string sep] w fun e w' => e = .returned (.string ⟨#[]⟩) ∧ w' = w := Any.strings_Join_none Tryz.lays156 Tryz.Builder_Extra_156 a c sep w
open Go.RowKit in
theorem Tryz.strings_Join (bk o c : Nat) (xs : List ByteArray) (sep : ByteArray) (w : World) (hcells : ∀ (j : Nat) x, xs[j]? = some x → w.cell? ⟨bk, o + j, none⟩ = some (.string x)) (hbk : bk < w.heap.size) (hN : xs.length ≤ 140737488355328) (hcap : xs.length ≤ c) (hlen : (Lib.join (xs.map (·.data.toList)) sep.data.toList).length ≤ 140737488355328) :
  Calls Tryz.prog 145 #[.slice (some ⟨bk, o, none⟩) xs.length c, .string sep] w fun e w' => e = .returned (.string ⟨(Lib.join (xs.map (·.data.toList)) sep.data.toList).toArray⟩) ∧ Below w.heap.size w w' := Any.strings_Join Tryz.lays156 Tryz.Builder_Extra_156 bk o c xs sep w hcells hbk hN hcap hlen
end Go.Proofs
namespace Go.Proofs.YtlpndgodkkndnaaGreatDoor
open Go.RowKit Go.SX
set_option maxRecDepth 100000
set_option maxHeartbeats 4000000
set_option linter.unusedVariables false
set_option linter.unusedSimpArgs false
theorem lA {α : Type} {l m : List α} : (l ++ m).length = l.length + m.length := List.length_append
theorem lG {α : Type} {l : List α} {i : Nat} {a : α} (e : l[i]? = some a) : a ∈ l := List.mem_of_getElem? e
theorem bA (a b : Bool) : ((a && b) = true) = (a = true ∧ b = true) := Bool.and_eq_true a b
theorem sA {α : Type} {x : α} {xs : List α} {n : Nat} {a : α} : (x :: xs).set (n + 1) a = x :: xs.set n a := rfl
theorem sB {α : Type} {x : α} {xs : List α} {a : α} : (x :: xs).set 0 a = a :: xs := rfl
theorem sC {α : Type} {x : α} {xs : List α} {n : Nat} {d : α} : (x :: xs).getD (n + 1) d = xs.getD n d := rfl
theorem sD {α : Type} {x : α} {xs : List α} {d : α} : (x :: xs).getD 0 d = x := rfl
theorem dT {p : Prop} [h : Decidable p] : (decide p = true) = p := decide_eq_true_eq
theorem dF {p : Prop} {h : Decidable p} : decide p = false ↔ ¬ p := decide_eq_false_iff_not
theorem lM {α β : Type} {l : List α} (f : α → β) : (l.map f).length = l.length := List.length_map f
section
variable {C : Cx} {ds : List Deferred} {ks : List K} {ah : AH} {ops : Array Oper}
theorem xN (n : Nat) {af af' : AF} {rest : List Oper} (k : AW C ds ks af' ah) (h : evN ops n af rest = some (af', []) := by exact rfl) (hc : okN C.P C.n ops n af rest = true := by kernel_rfl) : AL C ds ks ops rest af ah := AL.es n (AL.nil k) h hc
theorem xS {ks0 : List K} {af af' : AF} {l' : List Oper} (id n : Nat) (k : AL C ds ks ops l' af' ah) (hc : ctlN 99 af ks0 = .c (.region id ops false) :: ks := by exact rfl) (h : evN ops n af ops.toList = some (af', l') := by exact rfl) (hk : okN C.P C.n ops n af ops.toList = true := by kernel_rfl) : AW C ds ks0 af ah := AW.r id (AL.es n k h hk) hc
end
section
variable {P : Program} {af : AF} {ah : AH} {d : Option Tmp} {T : TypeId} {ps : String} {es : Array Edge} {gd : Option (Nat × Bool)}
theorem iX {x y : Operand} {xs : List AV} {v : AV} {t : TypeId} {k : IntKind} {i : Int} {sz : Nat} (hv : xs[i.toNat]? = some v) (hx : aeval af x = some (.sl xs) := by exact rfl) (hy : aeval af y = some (.int k i) := by exact rfl) (h0 : 0 ≤ i := by omega) (he : esize P t = some sz := by kernel_rfl) (hs : v.size = sz := by exact rfl) : AOp P ⟨d, .indexAddr t x y, T, ps, es, gd⟩ af ah (D (.at v) ah) := AOp.index_sl hx hy h0 hv he hs
end
def idxFrom {α : Type} (p : α → Bool) : List α → Nat → Int
 | [], _ => -1
 | x :: xs, k => if p x then k else idxFrom p xs (k + 1)
theorem idxFrom_lt {α : Type} {p : α → Bool} : ∀ (xs : List α) (k : Nat), (idxFrom p xs k ≥ 0) = (xs.any p = true)
 | [], k => by simp [idxFrom]
 | x :: xs, k => by
  simp only [idxFrom, List.any_cons]
  by_cases h : p x = true
  ·simp [h]
  ·have := idxFrom_lt (p := p) xs (k + 1)
   simp only [h, Bool.false_eq_true, if_false, Bool.false_or]
   simpa using this
def letterB (n : Int) : Bool := decide (97 ≤ n) && decide (n ≤ 122) || decide (65 ≤ n) && decide (n ≤ 90)
def digitB (n : Int) : Bool := decide (48 ≤ n) && decide (n ≤ 57)
def wordB (s : ByteArray) : Bool := decide (s = ⟨#[97, 110, 100]⟩) || decide (s = ⟨#[111, 114]⟩) || decide (s = ⟨#[110, 111, 116]⟩) || decide (s = ⟨#[115, 111, 109, 101]⟩) || decide (s = ⟨#[97, 108, 108]⟩) || decide (s = ⟨#[108, 102, 112]⟩) || decide (s = ⟨#[112, 102, 112]⟩) ||
 decide (s = ⟨#[116, 99]⟩) || decide (s = ⟨#[101, 120, 105, 115, 116, 115]⟩) || decide (s = ⟨#[116, 114, 117, 101]⟩) || decide (s = ⟨#[102, 97, 108, 115, 101]⟩)
def nameB (s : ByteArray) : Bool := decide (0 < s.size) && decide (s.size ≤ 12) && letterB (byteAt s 0) && !wordB s && (List.range s.size).all fun i => letterB (byteAt s i) || digitB (byteAt s i)
theorem nameB_false {s : ByteArray} {k : Nat} (hk : k < s.size) (h1 : letterB (byteAt s k) = false) (h2 : digitB (byteAt s k) = false) : nameB s = false := by
 have : ((List.range s.size).all fun i => letterB (byteAt s i) || digitB (byteAt s i)) = false := by
  rw [Bool.eq_false_iff]
  intro h
  rw [List.all_eq_true] at h
  have := h k (List.mem_range.2 hk)
  simp [h1, h2] at this
 simp [nameB, this]
theorem retB {v b : Bool} (h : v = b) : AEnd.ret (ofConst (Value.bool b)) = AEnd.ret (AV.bool v) := by rw [h]; rfl
theorem f_letter (n : Int) : Tri Tryz.prog 102 [.int .u8 n] [] (D (.bool (letterB n)) []) := by
 refine Tri.enter 17 Tryz.func102 rfl rfl rfl rfl fun Fr w0 => ?_
 repeat' (first | refine AW.re 0 1 ?_ | (refine xS 1 3 ?_; ((refine AL.gx (fun hb => ?_) (fun hb => ?_) <;> refine AL.es 4 ?_)) <;> (first | refine AL.es 3 ?_ | (refine AL.gx (fun hb => ?_) (fun hb => ?_) <;> refine AL.es 3 ?_)) <;> (first | refine AL.es 5 ?_ | (refine AL.gx (fun hb => ?_) (fun hb => ?_) <;> refine AL.es 5 ?_)) <;> refine AL.nil ?_) | fail)
 all_goals refine AW.retv rfl ⟨?_, rfl⟩
 all_goals simp_all [letterB, ofConst]
 all_goals omega
theorem f_digit (n : Int) : Tri Tryz.prog 106 [.int .u8 n] [] (D (.bool (digitB n)) []) := by
 refine Tri.enter 9 Tryz.func106 rfl rfl rfl rfl fun Fr w0 => ?_
 repeat' (first | refine AW.re 0 1 ?_ | (refine xS 1 3 ?_; ((refine AL.gx (fun hb => ?_) (fun hb => ?_) <;> refine AL.es 4 ?_)) <;> refine AL.nil ?_) | fail)
 all_goals refine AW.retv rfl ⟨?_, rfl⟩
 all_goals simp_all [digitB, ofConst]
 all_goals omega
def wordL : List ByteArray := [⟨#[97, 110, 100]⟩, ⟨#[111, 114]⟩, ⟨#[110, 111, 116]⟩, ⟨#[115, 111, 109, 101]⟩, ⟨#[97, 108, 108]⟩, ⟨#[108, 102, 112]⟩, ⟨#[112, 102, 112]⟩, ⟨#[116, 99]⟩, ⟨#[101, 120, 105, 115, 116, 115]⟩, ⟨#[116, 114, 117, 101]⟩, ⟨#[102, 97, 108, 115, 101]⟩]
theorem f_words : Tri Tryz.prog 103 [] [] (D (strs wordL) []) := by
 refine Tri.enter 2 Tryz.func103 rfl rfl rfl rfl fun Fr w0 => ?_
 repeat' (first | refine AW.re 0 1 ?_ | (refine AW.r 1 ?_; refine AL.d (AOp.lit (e := 9) (sz := 1) (by kernel_rfl) rfl rfl rfl (by simp [AV.size, ofConst]) (by decide)) ?_; refine xN 1 ?_) | fail)
 exact AW.retv rfl ⟨rfl, rfl⟩
theorem Index_str (xs : List ByteArray) (hl : xs.length ≤ 4611686018427387904) (s : ByteArray) :
  Tri Tryz.prog 131 [strs xs, .str s] [] (D (.int .i64 (idxFrom (fun x => decide (s = x)) xs 0)) []) := by
 refine Tri.enter 19 Tryz.func131 rfl rfl rfl rfl fun Fr w0 => ?_
 repeat' (first | refine AW.re 0 1 ?_ | refine AW.re 1 3 ?_ | refine AW.go ?_ | fail)
 refine AW.prune [0, 1, 7, 8] (AW.loop (fun mz af h => ∃ (i : Nat), i ≤ xs.length ∧ mz = xs.length - i ∧ af = [(0, strs xs), (1, .str s), (7, .int .i64 (xs.map AV.str).length), (8, .int .i64 i)] ∧ h = [] ∧ idxFrom (fun x => decide (s = x)) xs 0 = idxFrom (fun x => decide (s = x)) (xs.drop i) i) xs.length ⟨0, Nat.zero_le _, rfl, rfl, rfl, rfl⟩ ?_)
 rintro mz af h ⟨i, hi, rfl, rfl, rfl, he⟩
 refine AW.seq ?_
 by_cases hlt : i < xs.length
 ·obtain ⟨x, hx⟩ := get_lt hlt
  have hx' : (xs.map AV.str)[((i : Nat) : Int).toNat]? = some (.str x) := map_get hx
  rw [drop_cons hx] at he
  simp only [idxFrom] at he
  repeat' (first | refine AW.re 2 1 ?_ | refine AW.re 3 2 ?_ | (refine xS 4 3 ?_; refine AL.d (iX hx') ?_; refine xN 2 ?_) | refine AW.re 5 2 ?_ | (refine AW.r 6 ?_; refine AL.d AOp.ad ?_; refine xN 1 ?_) | refine AW.jj (fun hb => ?_) (fun hb => ?_) | refine AW.go ?_ | fail)
  all_goals try (exfalso; simp only [dT, dF, lM] at *; omega)
  ·rw [toList_beq] at hb
   rw [if_pos hb] at he
   exact AW.retv rfl ⟨by rw [he], rfl⟩
  ·rw [toList_beq] at hb
   rw [if_neg (by simp [hb])] at he
   refine AW.again_keep (xs.length - (i + 1)) [0, 1, 7, 8] (by omega) ⟨i + 1, hlt, rfl, rfl, rfl, ?_⟩
   exact he
 ·repeat' (first | refine AW.re 2 1 ?_ | refine AW.re 7 1 ?_ | refine AW.jj (fun hb => ?_) (fun hb => ?_) | refine AW.go ?_ | fail)
  all_goals try (exfalso; simp only [dT, dF, lM] at *; omega)
  refine AW.retv rfl ⟨?_, rfl⟩
  rw [he, List.drop_eq_nil_of_le (by omega)]; rfl
theorem Contains_str (xs : List ByteArray) (hl : xs.length ≤ 4611686018427387904) (s : ByteArray) :
  Tri Tryz.prog 80 [strs xs, .str s] [] (D (.bool (xs.any fun x => decide (s = x))) []) := by
 refine Tri.enter 9 Tryz.func80 rfl rfl rfl rfl fun Fr w0 => ?_
 repeat' (first | refine AW.re 0 1 ?_ | (refine xS 1 2 ?_; refine AL.d (AOp.call rfl rfl (Index_str xs hl s)) ?_; refine xN 2 ?_) | fail)
 refine AW.retv rfl ⟨?_, rfl⟩
 have := idxFrom_lt (p := fun x => decide (s = x)) xs 0
 have h2 : decide (idxFrom (fun x => decide (s = x)) xs 0 ≥ 0) = xs.any fun x => decide (s = x) := by rw [Bool.eq_iff_iff, decide_eq_true_iff, this]
 rw [h2]
theorem wordL_any (s : ByteArray) : (wordL.any fun x => decide (s = x)) = wordB s := by
 simp only [wordL, wordB, List.any_cons, List.any_nil, Bool.or_false, Bool.or_assoc]
def runeB (n : Int) : Bool := decide (n > 127) || (!letterB n && !digitB n)
theorem wrap_u8 {n : Int} (h : 0 ≤ n) (h1 : n ≤ 127) : IntKind.wrap .u8 n = n := by
 simp only [IntKind.wrap, IntKind.bits, IntKind.signed, Bool.false_and, Bool.false_eq_true, if_false]
 omega
theorem f_rune (n : Int) (h : 0 ≤ n) : Tri Tryz.prog 105 [.int .i32 n] [] (D (.bool (runeB n)) []) := by
 refine Tri.enter 17 Tryz.func105 rfl rfl rfl rfl fun Fr w0 => ?_
 repeat' (first | refine AW.re 0 1 ?_ | (refine xS 1 3 ?_; ((refine AL.gx (fun hb => ?_) (fun hb => ?_) <;> refine AL.es 1 ?_)) <;> (first | (refine AL.gd ?_; refine AL.d (AOp.conv (k' := .u8) (m := n) rfl (by kernel_rfl) (wrap_u8 h (by simp only [dT, dF] at *; omega))) ?_) | refine AL.gs ?_) <;> (first | (refine AL.gd ?_; (refine AL.d (AOp.call rfl rfl (f_letter _)) ?_)) | refine AL.gs ?_) <;> refine AL.es 2 ?_ <;> (first | refine AL.es 1 ?_ | (refine AL.gx (fun hb => ?_) (fun hb => ?_) <;> refine AL.es 1 ?_)) <;> (first | (refine AL.gd ?_; refine AL.d (AOp.conv (k' := .u8) (m := n) rfl (by kernel_rfl) (wrap_u8 h (by simp only [dT, dF] at *; omega))) ?_) | refine AL.gs ?_ | refine AL.gu ?_) <;> (first | (refine AL.gd ?_; (refine AL.d (AOp.call rfl rfl (f_digit _)) ?_)) | refine AL.gs ?_ | refine AL.gu ?_) <;> refine AL.es 4 ?_ <;> refine AL.nil ?_) | fail)
 all_goals refine AW.retv rfl ⟨retB ?_, rfl⟩
 all_goals (unfold runeB; simp_all)
 all_goals omega
def badB (s : ByteArray) (i : Nat) : Bool := !(letterB (byteAt s i) || digitB (byteAt s i))
theorem rune_at {s : ByteArray} {p : Nat} (hp : p < s.size) : runeB ((Utf8.decode s p).1 : Int) = badB s p ∧ (badB s p = false → (Utf8.decode s p).2 = 1) := by
 have hb : byteAt s p = ((s[p]'hp).toNat : Int) := (byteAt_eq hp).symm
 by_cases h : (s[p]'hp).toNat < 128
 ·rw [decode_lo hp h]
  refine ⟨?_, fun _ => rfl⟩
  have : ¬ (((s[p]'hp).toNat : Int) > 127) := by omega
  simp [runeB, badB, hb, this]
 ·have h1 := decode_hi hp h
  have h2 : letterB (byteAt s p) = false := by rw [hb]; simp [letterB]; omega
  have h3 : digitB (byteAt s p) = false := by rw [hb]; simp [digitB]; omega
  have h4 : badB s p = true := by simp [badB, h2, h3]
  rw [h4]
  refine ⟨?_, by simp⟩
  have : (((Utf8.decode s p).1 : Nat) : Int) > 127 := by omega
  simp [runeB, this]
theorem indexFunc_name (s : ByteArray) (hs : strOk s) : Tri Tryz.prog 173 [.str s, .fn 105 [], .bool true] [] (D (.int .i64 (idxFrom (badB s) (List.range s.size) 0)) []) := by
 unfold strOk at hs
 refine Tri.enter 21 Tryz.func173 rfl rfl rfl rfl fun Fr w0 => ?_
 repeat' (first | (refine AW.r 0 ?_; refine AL.e ?_; refine AL.nil ?_) | (refine AW.r 1 ?_; refine AL.e ?_; refine AL.rangeS rfl (by kernel_rfl) rfl fun it => ?_; refine AL.nil ?_) | refine AW.go ?_ | fail)
 refine AW.prune [0, 1, 2, 10] (AW.loop (fun m af h => ∃ i : Nat, i ≤ s.size ∧ m = s.size - i ∧ af = [(0, .str s), (1, .fn 105 []), (2, .bool true), (10, .ref it 0)] ∧ h = [.siter it s i] ∧ idxFrom (badB s) (List.range s.size) 0 = idxFrom (badB s) ((List.range s.size).drop i) i) s.size ⟨0, Nat.zero_le _, rfl, rfl, rfl, rfl⟩ ?_)
 rintro m af h ⟨i, hi, rfl, rfl, rfl, he⟩
 refine AW.seq ?_
 by_cases hlt : i < s.size
 ·rw [drop_cons (x := i) (by rw [List.getElem?_range hlt])] at he
  simp only [idxFrom] at he
  obtain ⟨q1, q2⟩ := rune_at hlt
  have hc := f_rune ((Utf8.decode s i).1 : Int) (by omega)
  rw [q1] at hc
  repeat' (first | (refine AW.r 2 ?_; refine AL.d (AOp.nextS (j := 0) rfl rfl hlt) ?_; refine xN 1 ?_) | refine AW.re 3 4 ?_ | (refine xS 4 2 ?_; refine AL.d (AOp.call rfl rfl (hc.pure _)) ?_; refine AL.es 1 ?_; refine AL.d AOp.be ?_; refine AL.nil ?_) | refine AW.re 5 2 ?_ | refine AW.jt ?_ | refine AW.jj (fun hb => ?_) (fun hb => ?_) | refine AW.go ?_ | fail)
  ·have hb' : badB s i = true := by simpa using hb
   rw [if_pos hb'] at he
   exact AW.ret_drop rfl (List.nil_sublist _) ⟨by rw [he], rfl⟩
  ·have hb' : badB s i = false := by simpa using hb
   rw [if_neg (by simp [hb'])] at he
   rw [q2 hb']
   exact AW.again_keep (s.size - (i + 1)) [0, 1, 2, 10] (by omega) ⟨i + 1, hlt, rfl, rfl, rfl, he⟩
 ·repeat' (first | (refine AW.r 2 ?_; refine AL.d (AOp.nextS_end (j := 0) rfl rfl hlt) ?_; refine xN 1 ?_) | refine AW.re 6 1 ?_ | refine AW.jf ?_ | fail)
  refine AW.ret_drop rfl (List.nil_sublist _) ⟨?_, rfl⟩
  rw [he, List.drop_eq_nil_of_le (by simp; omega)]; rfl
theorem IndexFunc_name (s : ByteArray) (hs : strOk s) : Tri Tryz.prog 149 [.str s, .fn 105 []] [] (D (.int .i64 (idxFrom (badB s) (List.range s.size) 0)) []) := by
 refine Tri.enter 8 Tryz.func149 rfl rfl rfl rfl fun Fr w0 => ?_
 repeat' (first | refine AW.re 0 1 ?_ | (refine xS 1 2 ?_; refine AL.d (AOp.call rfl rfl (indexFunc_name s hs)) ?_; refine xN 1 ?_) | fail)
 exact AW.retv rfl ⟨rfl, rfl⟩
theorem ContainsFunc_name (s : ByteArray) (hs : strOk s) : Tri Tryz.prog 104 [.str s, .fn 105 []] [] (D (.bool ((List.range s.size).any (badB s))) []) := by
 refine Tri.enter 9 Tryz.func104 rfl rfl rfl rfl fun Fr w0 => ?_
 repeat' (first | refine AW.re 0 1 ?_ | (refine xS 1 2 ?_; refine AL.d (AOp.call rfl rfl (IndexFunc_name s hs)) ?_; refine xN 2 ?_) | fail)
 refine AW.retv rfl ⟨?_, rfl⟩
 have := idxFrom_lt (p := badB s) (List.range s.size) 0
 have h2 : decide (idxFrom (badB s) (List.range s.size) 0 ≥ 0) = (List.range s.size).any (badB s) := by rw [Bool.eq_iff_iff, decide_eq_true_iff, this]
 rw [h2]
theorem any_bad (s : ByteArray) : (List.range s.size).any (badB s) = !((List.range s.size).all fun i => letterB (byteAt s i) || digitB (byteAt s i)) := by
 rw [List.not_all_eq_any_not]; rfl
theorem f_Name (s : ByteArray) (hs : strOk s) : Tri Tryz.prog 56 [.str s] [] (D (.bool (nameB s)) []) := by
 have hc := ContainsFunc_name s hs
 rw [any_bad] at hc
 have hw := Contains_str wordL (by decide) s
 rw [wordL_any] at hw
 unfold strOk at hs
 refine Tri.enter 24 Tryz.func56 rfl rfl rfl rfl fun Fr w0 => ?_
 repeat' (first | refine AW.re 0 1 ?_ | (refine xS 1 3 ?_; ((refine AL.gx (fun hb => ?_) (fun hb => ?_) <;> refine AL.es 5 ?_)) <;> (first | refine AL.es 1 ?_ | (refine AL.gx (fun hb => ?_) (fun hb => ?_) <;> refine AL.es 1 ?_)) <;> (first | (refine AL.gd ?_; refine AL.d (AOp.str_at (by kernel_rfl) rfl rfl (by omega) (by have h0 := size_pos_of (by assumption); exact h0)) ?_) | refine AL.gs ?_) <;> (first | (refine AL.gd ?_; (refine AL.d (AOp.call rfl rfl (f_letter _)) ?_)) | refine AL.gs ?_) <;> refine AL.es 3 ?_ <;> (first | refine AL.gs ?_ | (refine AL.gx (fun hb => ?_) (fun hb => ?_) <;> first | (refine AL.gd ?_; (refine AL.d (AOp.call rfl rfl f_words) ?_)) | refine AL.gs ?_)) <;> refine AL.es 1 ?_ <;> (first | (refine AL.gd ?_; (refine AL.d (AOp.call rfl rfl hw) ?_)) | refine AL.gs ?_) <;> refine AL.es 1 ?_ <;> refine AL.nil ?_) | refine AW.re 2 1 ?_ | (refine xS 3 1 ?_; refine AL.d (AOp.call rfl rfl hc) ?_; refine xN 2 ?_) | refine AW.jt ?_ | refine AW.jj (fun hb => ?_) (fun hb => ?_) | fail)
 all_goals refine AW.retv rfl ⟨retB ?_, rfl⟩
 ·have h := size_zero_of hb
  simp [nameB, h]
 ·have h := of_decide_eq_true hb
  simp [nameB, show ¬ s.size ≤ 12 by omega]
 ·have h : letterB (byteAt s 0) = false := by simpa using hb
  simp [nameB, h]
 ·simp [nameB, hb]
 ·rename_i h1 h2 h3
  have k1 := size_pos_of h1
  have k2 : s.size ≤ 12 := by have := of_decide_eq_false h2; omega
  have k3 : letterB (byteAt s 0) = true := by simpa using h3
  rw [nameB, decide_eq_true k1, decide_eq_true k2, k3, hb]
  simp
theorem ref_letter (n : Int) : Tri Tryz.prog 163 [.int .u8 n] [] (D (.bool (letterB n)) []) := by
 refine Tri.enter 17 Tryz.func163 rfl rfl rfl rfl fun Fr w0 => ?_
 repeat' (first | refine AW.re 0 1 ?_ | (refine xS 1 3 ?_; ((refine AL.gx (fun hb => ?_) (fun hb => ?_) <;> refine AL.es 4 ?_)) <;> (first | refine AL.es 3 ?_ | (refine AL.gx (fun hb => ?_) (fun hb => ?_) <;> refine AL.es 3 ?_)) <;> (first | refine AL.es 5 ?_ | (refine AL.gx (fun hb => ?_) (fun hb => ?_) <;> refine AL.es 5 ?_)) <;> refine AL.nil ?_) | fail)
 all_goals refine AW.retv rfl ⟨?_, rfl⟩
 all_goals simp_all [letterB, ofConst]
 all_goals omega
theorem ref_digit (n : Int) : Tri Tryz.prog 165 [.int .u8 n] [] (D (.bool (digitB n)) []) := by
 refine Tri.enter 9 Tryz.func165 rfl rfl rfl rfl fun Fr w0 => ?_
 repeat' (first | refine AW.re 0 1 ?_ | (refine xS 1 3 ?_; ((refine AL.gx (fun hb => ?_) (fun hb => ?_) <;> refine AL.es 4 ?_)) <;> refine AL.nil ?_) | fail)
 all_goals refine AW.retv rfl ⟨?_, rfl⟩
 all_goals simp_all [digitB, ofConst]
 all_goals omega
theorem ref_Word (s : ByteArray) : Tri Tryz.prog 164 [.str s] [] (D (.bool (wordB s)) []) := by
 refine Tri.enter 16 Tryz.func164 rfl rfl rfl rfl fun Fr w0 => ?_
 repeat' (first | refine AW.re 0 1 ?_ | refine AW.re 1 1 ?_ | refine AW.re 2 2 ?_ | refine AW.re 3 2 ?_ | refine AW.re 4 2 ?_ | refine AW.re 5 2 ?_ | refine AW.re 6 2 ?_ | refine AW.re 7 2 ?_ | refine AW.re 8 2 ?_ | refine AW.re 9 2 ?_ | refine AW.re 10 2 ?_ | refine AW.re 11 2 ?_ | refine AW.re 12 2 ?_ | refine AW.re 13 1 ?_ | refine AW.re 14 1 ?_ | refine AW.jj (fun hb => ?_) (fun hb => ?_) | fail)
 all_goals refine AW.retv rfl ⟨?_, rfl⟩
 all_goals simp only [toList_beq, dT, dF] at *
 all_goals simp_all [wordB, ofConst]
theorem ref_Name (s : ByteArray) (hs : strOk s) : Tri Tryz.prog 138 [.str s] [] (D (.bool (nameB s)) []) := by
 unfold strOk at hs
 refine Tri.enter 40 Tryz.func138 rfl rfl rfl rfl fun Fr w0 => ?_
 repeat' (first | refine AW.re 0 1 ?_ | refine AW.go ?_ | fail)
 refine AW.cut (fun af ah => ∃ v : Bool, af = [(0, .str s), (21, .bool v)] ∧ ah = [] ∧ v = !(decide (0 < s.size) && decide (s.size ≤ 12) && letterB (byteAt s 0) && !wordB s)) ?_ ?_
 ·repeat' (first | (refine xS 1 4 ?_; ((refine AL.gx (fun hb => ?_) (fun hb => ?_) <;> refine AL.es 5 ?_)) <;> (first | refine AL.es 1 ?_ | (refine AL.gx (fun hb => ?_) (fun hb => ?_) <;> refine AL.es 1 ?_)) <;> (first | (refine AL.gd ?_; refine AL.d (AOp.str_at (by kernel_rfl) rfl rfl (by omega) (by simp only [dT, dF] at *; omega)) ?_) | refine AL.gs ?_) <;> (first | (refine AL.gd ?_; (refine AL.d (AOp.call rfl rfl (ref_letter _)) ?_)) | refine AL.gs ?_) <;> refine AL.es 3 ?_ <;> (first | refine AL.es 1 ?_ | (refine AL.gx (fun hb => ?_) (fun hb => ?_) <;> refine AL.es 1 ?_)) <;> (first | (refine AL.gd ?_; (refine AL.d (AOp.call rfl rfl (ref_Word _)) ?_)) | refine AL.gs ?_) <;> refine AL.es 1 ?_ <;> refine AL.nil ?_) | fail)
  all_goals (refine AW.meet [0, 21] ⟨_, rfl, rfl, ?_⟩; simp only [dT, dF, Bool.not_eq_true', Bool.not_eq_false'] at *)
  ·simp [show ¬ 0 < s.size by omega]
  ·simp [show ¬ s.size ≤ 12 by omega]
  ·have h : letterB (byteAt s 0) = false := hb
   simp [h]
  ·have h : letterB (byteAt s 0) = true := hb
   simp [h, show 0 < s.size by omega, show s.size ≤ 12 by omega]
 rintro af ah ⟨v, rfl, rfl, hv⟩
 cases v with
 | true =>
  repeat' (first | refine AW.re 2 1 ?_ | refine AW.jt ?_ | fail)
  refine AW.retv rfl ⟨retB ?_, rfl⟩
  rw [nameB]
  have hv' : (decide (0 < s.size) && decide (s.size ≤ 12) && letterB (byteAt s 0) && !wordB s) = false := by revert hv; generalize (decide (0 < s.size) && decide (s.size ≤ 12) && letterB (byteAt s 0) && !wordB s) = w; cases w <;> simp
  rw [hv']; rfl
 | false =>
  have hv' : (decide (0 < s.size) && decide (s.size ≤ 12) && letterB (byteAt s 0) && !wordB s) = true := by revert hv; generalize (decide (0 < s.size) && decide (s.size ≤ 12) && letterB (byteAt s 0) && !wordB s) = w; cases w <;> simp
  have hpos : 0 < s.size := by simp at hv'; omega
  repeat' (first | refine AW.re 3 1 ?_ | refine AW.jf ?_ | refine AW.go ?_ | fail)
  refine AW.prune [0, 3] (AW.loop (fun m af h => ∃ i : Nat, i ≤ s.size ∧ m = s.size - i ∧ af = [(0, .str s), (3, .int .i64 i)] ∧ h = [] ∧ ∀ j, j < i → (letterB (byteAt s j) || digitB (byteAt s j)) = true) (s.size - 1) ⟨1, hpos, rfl, rfl, rfl, ?_⟩ ?_)
  ·intro j hj
   obtain rfl : j = 0 := by omega
   simp only [bA] at hv'
   simp [hv'.1.2]
  rintro m af h ⟨i, hi, rfl, rfl, rfl, hp⟩
  refine AW.seq ?_
  by_cases hlt : i < s.size
  ·repeat' (first | refine AW.re 4 4 ?_ | (refine xS 6 2 ?_; refine AL.d (AOp.str_at (by kernel_rfl) rfl rfl (by omega) (by have h0 := of_decide_eq_true (by assumption); omega)) ?_ <;> (refine AL.d (AOp.call rfl rfl (ref_letter _)) ?_) <;> refine AL.es 2 ?_ <;> ((refine AL.gx (fun hb => ?_) (fun hb => ?_) <;> refine AL.es 2 ?_)) <;> (first | (refine AL.gd ?_; refine AL.d (AOp.str_at (by kernel_rfl) rfl rfl (by omega) (by have h0 := of_decide_eq_true (by assumption); omega)) ?_) | refine AL.gs ?_) <;> (first | (refine AL.gd ?_; (refine AL.d (AOp.call rfl rfl (ref_digit _)) ?_)) | refine AL.gs ?_) <;> refine AL.es 2 ?_ <;> refine AL.nil ?_) | refine AW.re 7 1 ?_ | (refine xS 5 1 ?_; refine AL.d AOp.ad ?_; refine xN 1 ?_) | refine AW.jf ?_ | refine AW.jj (fun hb => ?_) (fun hb => ?_) | refine AW.go ?_ | fail)
   all_goals try (exfalso; simp only [dT, dF] at *; omega)
   all_goals simp only [Int.toNat_natCast] at *
   all_goals (cases h1 : letterB (byteAt s i) <;> cases h2 : digitB (byteAt s i))
   all_goals first
    | (exfalso; simp_all; done)
    | (refine AW.retv rfl ⟨retB ?_, rfl⟩; exact nameB_false hlt h1 h2)
    | (refine AW.again_keep (s.size - (i + 1)) [0, 3] (by omega) ⟨i + 1, hlt, rfl, rfl, rfl, fun j hj => ?_⟩; rcases Nat.lt_or_ge j i with h | h; exact hp j h; (obtain rfl : j = i := by omega); simp [h1, h2])
  ·repeat' (first | refine AW.re 4 4 ?_ | refine AW.re 8 1 ?_ | refine AW.jj (fun hb => ?_) (fun hb => ?_) | refine AW.go ?_ | fail)
   all_goals try (exfalso; simp only [dT, dF] at *; omega)
   refine AW.retv rfl ⟨retB ?_, rfl⟩
   have : ((List.range s.size).all fun i => letterB (byteAt s i) || digitB (byteAt s i)) = true := by
    rw [List.all_eq_true]
    intro j hj
    exact hp j (by have := List.mem_range.1 hj; omega)
   rw [nameB, hv', this]; rfl
theorem ref_Among (l : List ByteArray) (s : ByteArray) (hl : l.length ≤ 4611686018427387904) : Tri Tryz.prog 17 [strs l, .str s] [] (D (.bool (l.any fun x => decide (x = s))) []) := by
 refine Tri.enter 18 Tryz.func17 rfl rfl rfl rfl fun Fr w0 => ?_
 repeat' (first | refine AW.re 0 1 ?_ | refine AW.re 1 1 ?_ | refine AW.go ?_ | fail)
 refine AW.prune [0, 1, 5] (AW.loop (fun mz af h => ∃ (i : Nat), i ≤ l.length ∧ mz = l.length - i ∧ af = [(0, strs l), (1, .str s), (5, .int .i64 i)] ∧ h = [] ∧ (l.any fun x => decide (x = s)) = ((l.drop i).any fun x => decide (x = s))) l.length ⟨0, Nat.zero_le _, rfl, rfl, rfl, rfl⟩ ?_)
 rintro mz af h ⟨i, hi, rfl, rfl, rfl, he⟩
 refine AW.seq ?_
 by_cases hlt : i < l.length
 ·obtain ⟨x, hx⟩ := get_lt hlt
  have hx' : (l.map AV.str)[((i : Nat) : Int).toNat]? = some (.str x) := map_get hx
  rw [drop_cons hx, List.any_cons] at he
  repeat' (first | refine AW.re 2 4 ?_ | (refine xS 4 2 ?_; refine AL.d (iX hx') ?_; refine xN 3 ?_) | refine AW.re 5 1 ?_ | (refine xS 3 1 ?_; refine AL.d AOp.ad ?_; refine xN 1 ?_) | refine AW.jj (fun hb => ?_) (fun hb => ?_) | refine AW.go ?_ | fail)
  all_goals try (exfalso; simp only [dT, dF, lM] at *; omega)
  all_goals rw [toList_beq] at hb
  ·exact AW.retv rfl ⟨by rw [he, hb]; rfl, rfl⟩
  ·refine AW.again_keep (l.length - (i + 1)) [0, 1, 5] (by omega) ⟨i + 1, hlt, rfl, rfl, rfl, ?_⟩
   rw [he, hb]; rfl
 ·rw [List.drop_eq_nil_of_le (by omega)] at he
  repeat' (first | refine AW.re 2 4 ?_ | refine AW.re 6 1 ?_ | refine AW.jj (fun hb => ?_) (fun hb => ?_) | refine AW.go ?_ | fail)
  all_goals try (exfalso; simp only [dT, dF, lM] at *; omega)
  exact AW.retv rfl ⟨by rw [he]; rfl, rfl⟩
def namesG (nm ap : Bool) : List ByteArray → List ByteArray → Bool
 | _, [] => true
 | pre, x :: l => (!nm || nameB x) && !(ap && pre.any fun y => decide (y = x)) && namesG nm ap (pre ++ [x]) l
theorem namesG_split : ∀ (l pre : List ByteArray) (nm ap : Bool), namesG nm ap pre l = (namesG nm false pre l && namesG false ap pre l)
 | [], _, _, _ => rfl
 | x :: l, pre, nm, ap => by
  simp only [namesG]
  rw [namesG_split l (pre ++ [x]) nm ap]
  cases nm <;> cases ap <;> cases nameB x <;> cases (pre.any fun y => decide (y = x)) <;> cases namesG true false (pre ++ [x]) l <;> cases namesG false true (pre ++ [x]) l <;> simp_all
theorem take_snoc {α : Type} {l : List α} {i : Nat} {x : α} (h : l[i]? = some x) : l.take i ++ [x] = l.take (i + 1) := by
 rw [List.take_add_one, h]; rfl
theorem any_flip (l : List ByteArray) (x : ByteArray) : (l.any fun y => decide (x = y)) = l.any fun y => decide (y = x) := by
 congr 1; funext y; exact decide_eq_decide.2 ⟨Eq.symm, Eq.symm⟩
theorem ref_names (l : List ByteArray) (hl : l.length ≤ 4611686018427387904) (ho : ∀ x ∈ l, strOk x) : Tri Tryz.prog 140 [strs l] [] (D (.bool (namesG true false [] l)) []) := by
 refine Tri.enter 16 Tryz.func140 rfl rfl rfl rfl fun Fr w0 => ?_
 repeat' (first | refine AW.re 0 1 ?_ | refine AW.re 1 1 ?_ | refine AW.go ?_ | fail)
 refine AW.prune [0, 3] (AW.loop (fun mz af h => ∃ (i : Nat), i ≤ l.length ∧ mz = l.length - i ∧ af = [(0, strs l), (3, .int .i64 i)] ∧ h = [] ∧ namesG true false [] l = namesG true false (l.take i) (l.drop i)) l.length ⟨0, Nat.zero_le _, rfl, rfl, rfl, by simp⟩ ?_)
 rintro mz af h ⟨i, hi, rfl, rfl, rfl, he⟩
 refine AW.seq ?_
 by_cases hlt : i < l.length
 ·obtain ⟨x, hx⟩ := get_lt hlt
  have hx' : (l.map AV.str)[((i : Nat) : Int).toNat]? = some (.str x) := map_get hx
  have hc := ref_Name x (ho x (lG hx))
  rw [drop_cons hx, namesG, take_snoc hx] at he
  repeat' (first | refine AW.re 2 4 ?_ | (refine xS 4 2 ?_; refine AL.d (iX hx') ?_; refine AL.es 1 ?_; refine AL.d (AOp.call rfl rfl hc) ?_; refine xN 1 ?_) | refine AW.re 5 1 ?_ | (refine xS 3 1 ?_; refine AL.d AOp.ad ?_; refine xN 1 ?_) | refine AW.jj (fun hb => ?_) (fun hb => ?_) | refine AW.go ?_ | fail)
  all_goals try (exfalso; simp only [dT, dF, lM] at *; omega)
  ·have h : nameB x = false := by simpa using hb
   exact AW.retv rfl ⟨retB (by rw [he, h]; rfl), rfl⟩
  ·have h : nameB x = true := by simpa using hb
   refine AW.again_keep (l.length - (i + 1)) [0, 3] (by omega) ⟨i + 1, hlt, rfl, rfl, rfl, ?_⟩
   rw [he, h]; rfl
 ·rw [List.drop_eq_nil_of_le (by omega)] at he
  repeat' (first | refine AW.re 2 4 ?_ | refine AW.re 6 1 ?_ | refine AW.jj (fun hb => ?_) (fun hb => ?_) | refine AW.go ?_ | fail)
  all_goals try (exfalso; simp only [dT, dF, lM] at *; omega)
  exact AW.retv rfl ⟨by rw [he]; rfl, rfl⟩
theorem ref_Different (l : List ByteArray) (hl : l.length ≤ 4611686018427387904) : Tri Tryz.prog 139 [strs l] [] (D (.bool (namesG false true [] l)) []) := by
 refine Tri.enter 18 Tryz.func139 rfl rfl rfl rfl fun Fr w0 => ?_
 repeat' (first | refine AW.re 0 1 ?_ | refine AW.re 1 1 ?_ | refine AW.go ?_ | fail)
 refine AW.prune [0, 3] (AW.loop (fun mz af h => ∃ (i : Nat), i ≤ l.length ∧ mz = l.length - i ∧ af = [(0, strs l), (3, .int .i64 i)] ∧ h = [] ∧ namesG false true [] l = namesG false true (l.take i) (l.drop i)) l.length ⟨0, Nat.zero_le _, rfl, rfl, rfl, by simp⟩ ?_)
 rintro mz af h ⟨i, hi, rfl, rfl, rfl, he⟩
 refine AW.seq ?_
 by_cases hlt : i < l.length
 ·obtain ⟨x, hx⟩ := get_lt hlt
  have hx' : (l.map AV.str)[((i : Nat) : Int).toNat]? = some (.str x) := map_get hx
  have hc : Tri Tryz.prog 17 [.sl (((l.map AV.str).take i).drop 0), .str x] [] (D (.bool ((l.take i).any fun y => decide (y = x))) []) := by
   rw [List.drop_zero, ← List.map_take]; exact ref_Among (l.take i) x (by simp; omega)
  rw [drop_cons hx, namesG, take_snoc hx] at he
  repeat' (first | refine AW.re 2 4 ?_ | (refine AW.dl 4 7 ?_; refine AQ.es 2 ?_; refine AQ.p rfl (AOp.cut (sz := 1) rfl rfl (by kernel_rfl) (all_map fun _ => rfl) bndIs.none (bndIs.some rfl rfl) (by omega) (by simp; omega)) ?_ <;> refine AQ.es 2 ?_ <;> refine AQ.p rfl (iX hx') ?_ <;> refine AQ.es 1 ?_ <;> refine AQ.nil ?_ <;> refine AL.d (AOp.call rfl rfl hc) ?_ <;> refine AL.nil ?_) | refine AW.re 5 1 ?_ | (refine xS 3 1 ?_; refine AL.d AOp.ad ?_; refine xN 1 ?_) | refine AW.jj (fun hb => ?_) (fun hb => ?_) | refine AW.go ?_ | fail)
  all_goals try (exfalso; simp only [dT, dF, lM] at *; omega)
  ·exact AW.retv rfl ⟨retB (by rw [he, hb]; rfl), rfl⟩
  ·refine AW.again_keep (l.length - (i + 1)) [0, 3] (by omega) ⟨i + 1, hlt, rfl, rfl, rfl, ?_⟩
   rw [he, hb]; rfl
 ·rw [List.drop_eq_nil_of_le (by omega)] at he
  repeat' (first | refine AW.re 2 4 ?_ | refine AW.re 6 1 ?_ | refine AW.jj (fun hb => ?_) (fun hb => ?_) | refine AW.go ?_ | fail)
  all_goals try (exfalso; simp only [dT, dF, lM] at *; omega)
  exact AW.retv rfl ⟨by rw [he]; rfl, rfl⟩
theorem f_names (l : List ByteArray) (lo hh : Int) (ap : Bool) (hl : l.length ≤ 4611686018427387904) (ho : ∀ x ∈ l, strOk x) :
  Tri Tryz.prog 191 [strs l, .int .i64 lo, .int .i64 hh, .bool ap] [] (D (.bool (decide (lo ≤ l.length) && decide ((l.length : Int) ≤ hh) && namesG true ap [] l)) []) := by
 refine Tri.enter 42 Tryz.func191 rfl rfl rfl rfl fun Fr w0 => ?_
 repeat' (first | refine AW.re 0 1 ?_ | (refine xS 1 5 ?_; ((refine AL.gx (fun hb => ?_) (fun hb => ?_) <;> refine AL.es 5 ?_)) <;> refine AL.nil ?_) | refine AW.re 2 1 ?_ | refine AW.re 3 3 ?_ | refine AW.jt ?_ | refine AW.jj (fun hb => ?_) (fun hb => ?_) | refine AW.go ?_ | fail)
 ·have h : ¬ lo ≤ l.length := by simpa using hb
  exact AW.retv rfl ⟨retB (by simp [h]), rfl⟩
 ·have h : ¬ (l.length : Int) ≤ hh := by simpa using hb
  exact AW.retv rfl ⟨retB (by simp [h]), rfl⟩
 rename_i hb1
 have h1 : lo ≤ l.length := by simpa using hb1
 have h2 : (l.length : Int) ≤ hh := by simpa using hb
 rw [decide_eq_true h1, decide_eq_true h2, Bool.true_and, Bool.true_and]
 refine AW.prune [0, 3, 21, 22, 23] (AW.loop (fun mz af h => ∃ (i : Nat), i ≤ l.length ∧ mz = l.length - i ∧ af = [(0, strs l), (3, .bool ap), (21, strs l), (22, .int .i64 (l.map AV.str).length), (23, .int .i64 i)] ∧ h = [] ∧ namesG true ap [] l = namesG true ap (l.take i) (l.drop i)) l.length ⟨0, Nat.zero_le _, rfl, rfl, rfl, by simp⟩ ?_)
 rintro mz af h ⟨i, hi, rfl, rfl, rfl, he⟩
 refine AW.seq ?_
 by_cases hlt : i < l.length
 ·obtain ⟨x, hx⟩ := get_lt hlt
  have hx' : (l.map AV.str)[((i : Nat) : Int).toNat]? = some (.str x) := map_get hx
  have hc := f_Name x (ho x (lG hx))
  have hd : Tri Tryz.prog 80 [.sl (((l.map AV.str).take i).drop 0), .str x] [] (D (.bool ((l.take i).any fun y => decide (y = x))) []) := by
   rw [List.drop_zero, ← List.map_take, ← any_flip]; exact Contains_str (l.take i) (by simp; omega) x
  rw [drop_cons hx, namesG, take_snoc hx] at he
  repeat' (first | refine AW.re 4 1 ?_ | (refine xS 5 1 ?_; refine AL.d (iX hx') ?_; refine xN 3 ?_) | (refine xS 6 1 ?_; refine AL.d (AOp.call rfl rfl hc) ?_; refine AL.es 2 ?_; ((refine AL.gx (fun hb => ?_) (fun hb => ?_) <;> refine AL.es 2 ?_)) <;> (first | refine AL.es 2 ?_ | (refine AL.gx (fun hb => ?_) (fun hb => ?_) <;> refine AL.es 2 ?_)) <;> (first | (refine AL.gd ?_; refine AL.d (AOp.cut (sz := 1) rfl rfl (by kernel_rfl) (all_map fun _ => rfl) bndIs.none (bndIs.some rfl rfl) (by omega) (by simp; omega)) ?_) | refine AL.gs ?_ | refine AL.gu ?_) <;> refine AL.es 1 ?_ <;> (first | (refine AL.gd ?_; (refine AL.d (AOp.call rfl rfl hd) ?_)) | refine AL.gs ?_ | refine AL.gu ?_) <;> refine AL.es 2 ?_ <;> refine AL.nil ?_) | refine AW.re 7 1 ?_ | (refine AW.r 8 ?_; refine AL.d AOp.ad ?_; refine xN 1 ?_) | refine AW.jt ?_ | refine AW.jf ?_ | refine AW.jj (fun hb => ?_) (fun hb => ?_) | refine AW.go ?_ | fail)
  all_goals try (exfalso; simp only [dT, dF, lM] at *; omega)
  all_goals (clear hc hd; generalize ((l.take i).any fun y => decide (y = x)) = A at *; generalize nameB x = B at *)
  all_goals first
   | (refine AW.retv rfl ⟨retB ?_, rfl⟩; rw [he]; clear he hx hx' ho; cases A <;> cases B <;> cases ap <;> first | rfl | (exfalso; simp only [Bool.not_true, Bool.not_false, reduceCtorEq] at *; done) | fail)
   | (refine AW.again_keep (l.length - (i + 1)) [0, 3, 21, 22, 23] (by omega) ⟨i + 1, hlt, rfl, rfl, rfl, ?_⟩; rw [he]; clear he hx hx' ho; cases A <;> cases B <;> cases ap <;> first | rfl | (exfalso; simp only [Bool.not_true, Bool.not_false, reduceCtorEq] at *; done) | fail)
 ·rw [List.drop_eq_nil_of_le (by omega)] at he
  repeat' (first | refine AW.re 4 1 ?_ | refine AW.re 9 1 ?_ | refine AW.jj (fun hb => ?_) (fun hb => ?_) | refine AW.go ?_ | fail)
  all_goals try (exfalso; simp only [dT, dF, lM] at *; omega)
  exact AW.retv rfl ⟨by rw [he]; rfl, rfl⟩
structure FRule where
 k0 : Int
 k1 : Int
 a0 : Int
 a1 : Int
 v0 : Int
 v1 : Int
 named : Bool
 ar : Bool
 tie : Bool
def prAV (x y : Int) : AV := .st [.int .i64 x, .int .i64 y]
def FRule.av (r : FRule) : AV := .st [prAV r.k0 r.k1, prAV r.a0 r.a1, prAV r.v0 r.v1, .bool r.named, .bool r.ar, .bool r.tie]
def rulesP (k : Int) : FRule :=
 if k = 0 then ⟨0, 0, 0, 12, 0, 0, true, false, false⟩ else if k = 1 ∨ k = 2 then ⟨0, 0, 2, 2, 0, 0, false, false, false⟩
 else if k = 3 then ⟨1, 1, 0, 0, 0, 0, false, false, false⟩ else if k = 4 ∨ k = 5 then ⟨0, 1073741824, 0, 0, 0, 0, false, false, false⟩
 else if k = 6 ∨ k = 7 then ⟨1, 1, 0, 0, 1, 12, false, false, false⟩ else if k = 8 ∨ k = 9 then ⟨1, 1, 1, 12, 1, 12, true, false, true⟩
 else if k = 10 then ⟨1, 1, 2, 24, 2, 24, false, false, true⟩ else if k = 11 then ⟨1, 1, 0, 0, 0, 0, true, true, false⟩ else ⟨1, 0, 0, 0, 0, 0, false, false, false⟩
def zRule : FRule := ⟨0, 0, 0, 0, 0, 0, false, false, false⟩
theorem f_rules (k : Int) : Tri Tryz.prog 190 [.int .i64 k] [] (D (rulesP k).av []) := by
 refine Tri.enter 47 Tryz.func190 rfl rfl rfl rfl fun Fr w0 => ?_
 repeat' (first | (refine AW.r 0 ?_; refine AL.alloc_z zRule.av (by kernel_rfl) rfl rfl fun b => ?_; refine AL.nil ?_) | refine AW.re 1 1 ?_ | refine AW.re 2 2 ?_ | (refine AW.r 3 ?_; refine AL.d (AOp.buildA (z := prAV 0 0) (n := 2) (sz := 1) (zc := [.int .i64 0, .int .i64 0]) (by kernel_rfl) rfl rfl rfl) ?_; (refine AL.d (AOp.build (pl := [(0, 2), (2, 2), (4, 2), (6, 1), (7, 1), (8, 1)]) (z := zRule.av) (by kernel_rfl) rfl rfl rfl) ?_) <;> refine AL.sl 0 ?_ <;> refine AL.nil ?_) | refine AW.re 4 2 ?_ | refine AW.re 5 2 ?_ | (refine AW.r 6 ?_; refine AL.d (AOp.buildA (z := prAV 0 0) (n := 2) (sz := 1) (zc := [.int .i64 0, .int .i64 0]) (by kernel_rfl) rfl rfl rfl) ?_; (refine AL.d (AOp.build (pl := [(0, 2), (2, 2), (4, 2), (6, 1), (7, 1), (8, 1)]) (z := zRule.av) (by kernel_rfl) rfl rfl rfl) ?_) <;> refine AL.sl 0 ?_ <;> refine AL.nil ?_) | refine AW.re 7 2 ?_ | (refine AW.r 8 ?_; refine AL.d (AOp.buildA (z := prAV 0 0) (n := 2) (sz := 1) (zc := [.int .i64 0, .int .i64 0]) (by kernel_rfl) rfl rfl rfl) ?_; (refine AL.d (AOp.build (pl := [(0, 2), (2, 2), (4, 2), (6, 1), (7, 1), (8, 1)]) (z := zRule.av) (by kernel_rfl) rfl rfl rfl) ?_) <;> refine AL.sl 0 ?_ <;> refine AL.nil ?_) | refine AW.re 9 2 ?_ | refine AW.re 10 2 ?_ | (refine AW.r 11 ?_; refine AL.d (AOp.buildA (z := prAV 0 0) (n := 2) (sz := 1) (zc := [.int .i64 0, .int .i64 0]) (by kernel_rfl) rfl rfl rfl) ?_; (refine AL.d (AOp.build (pl := [(0, 2), (2, 2), (4, 2), (6, 1), (7, 1), (8, 1)]) (z := zRule.av) (by kernel_rfl) rfl rfl rfl) ?_) <;> refine AL.sl 0 ?_ <;> refine AL.nil ?_) | refine AW.re 12 2 ?_ | refine AW.re 13 2 ?_ | (refine AW.r 14 ?_; refine AL.d (AOp.buildA (z := prAV 0 0) (n := 2) (sz := 1) (zc := [.int .i64 0, .int .i64 0]) (by kernel_rfl) rfl rfl rfl) ?_; refine AL.d (AOp.buildA (z := prAV 0 0) (n := 2) (sz := 1) (zc := [.int .i64 0, .int .i64 0]) (by kernel_rfl) rfl rfl rfl) ?_; (refine AL.d (AOp.build (pl := [(0, 2), (2, 2), (4, 2), (6, 1), (7, 1), (8, 1)]) (z := zRule.av) (by kernel_rfl) rfl rfl rfl) ?_) <;> refine AL.sl 0 ?_ <;> refine AL.nil ?_) | refine AW.re 15 2 ?_ | refine AW.re 16 2 ?_ | (refine AW.r 17 ?_; refine AL.d (AOp.buildA (z := prAV 0 0) (n := 2) (sz := 1) (zc := [.int .i64 0, .int .i64 0]) (by kernel_rfl) rfl rfl rfl) ?_; refine AL.d (AOp.buildA (z := prAV 0 0) (n := 2) (sz := 1) (zc := [.int .i64 0, .int .i64 0]) (by kernel_rfl) rfl rfl rfl) ?_; refine AL.d (AOp.buildA (z := prAV 0 0) (n := 2) (sz := 1) (zc := [.int .i64 0, .int .i64 0]) (by kernel_rfl) rfl rfl rfl) ?_; (refine AL.d (AOp.build (pl := [(0, 2), (2, 2), (4, 2), (6, 1), (7, 1), (8, 1)]) (z := zRule.av) (by kernel_rfl) rfl rfl rfl) ?_) <;> refine AL.sl 0 ?_ <;> refine AL.nil ?_) | refine AW.re 18 2 ?_ | (refine AW.r 19 ?_; refine AL.d (AOp.buildA (z := prAV 0 0) (n := 2) (sz := 1) (zc := [.int .i64 0, .int .i64 0]) (by kernel_rfl) rfl rfl rfl) ?_; refine AL.d (AOp.buildA (z := prAV 0 0) (n := 2) (sz := 1) (zc := [.int .i64 0, .int .i64 0]) (by kernel_rfl) rfl rfl rfl) ?_; refine AL.d (AOp.buildA (z := prAV 0 0) (n := 2) (sz := 1) (zc := [.int .i64 0, .int .i64 0]) (by kernel_rfl) rfl rfl rfl) ?_; (refine AL.d (AOp.build (pl := [(0, 2), (2, 2), (4, 2), (6, 1), (7, 1), (8, 1)]) (z := zRule.av) (by kernel_rfl) rfl rfl rfl) ?_) <;> refine AL.sl 0 ?_ <;> refine AL.nil ?_) | refine AW.re 20 2 ?_ | (refine AW.r 21 ?_; refine AL.d (AOp.buildA (z := prAV 0 0) (n := 2) (sz := 1) (zc := [.int .i64 0, .int .i64 0]) (by kernel_rfl) rfl rfl rfl) ?_; (refine AL.d (AOp.build (pl := [(0, 2), (2, 2), (4, 2), (6, 1), (7, 1), (8, 1)]) (z := zRule.av) (by kernel_rfl) rfl rfl rfl) ?_) <;> refine AL.sl 0 ?_ <;> refine AL.nil ?_) | (refine AW.r 22 ?_; refine AL.d (AOp.buildA (z := prAV 0 0) (n := 2) (sz := 1) (zc := [.int .i64 0, .int .i64 0]) (by kernel_rfl) rfl rfl rfl) ?_; (refine AL.d (AOp.build (pl := [(0, 2), (2, 2), (4, 2), (6, 1), (7, 1), (8, 1)]) (z := zRule.av) (by kernel_rfl) rfl rfl rfl) ?_) <;> refine AL.sl 0 ?_ <;> refine AL.nil ?_) | refine AW.jj (fun hb => ?_) (fun hb => ?_) | fail)
 all_goals refine AW.retc (.cell 0 rfl rfl (by kernel_rfl) .nil) (List.nil_sublist _) ⟨?_, rfl⟩
 all_goals (simp only [beq_iff_eq, beq_eq_false_iff_ne, ne_eq] at *)
 all_goals (unfold rulesP; simp_all [FRule.av, prAV, ofConst, resv, zRule])
def empB : ByteArray := ⟨#[]⟩
def shp1 (r : FRule) (f : GFml) : Bool := decide (r.k0 ≤ f.Kids.length) && decide ((f.Kids.length : Int) ≤ r.k1) && (r.named == !decide (f.Name = empB)) && (!r.named || nameB f.Name)
def shp2 (r : FRule) (f : GFml) : Bool := (r.ar || decide (f.Arity = 0)) && decide (0 ≤ f.Arity) && decide (f.Arity ≤ 12) && !(decide (f.Kind = 10) && !decide ((f.Vars.length : Int) % 2 = 0))
def shp3 (r : FRule) (f : GFml) : Bool := (decide (r.a0 ≤ f.Args.length) && decide ((f.Args.length : Int) ≤ r.a1) && namesG true false [] f.Args) && (decide (r.v0 ≤ f.Vars.length) && decide ((f.Vars.length : Int) ≤ r.v1) && namesG true true [] f.Vars) && (!r.tie || decide (f.Vars.length = f.Args.length))
def shapedP (f : GFml) : Bool := shp1 (rulesP f.Kind) f && shp2 (rulesP f.Kind) f && shp3 (rulesP f.Kind) f
theorem f_shaped (f : GFml) (hf : f.Ok) : Tri Tryz.prog 169 [f.st] [] (D (.bool (shapedP f)) []) := by
 obtain ⟨⟨h1, h2, h3, h4, h5⟩, h6, h7⟩ := hf
 have hn := f_Name f.Name h3
 have hr := f_rules f.Kind
 have ha := f_names f.Args (rulesP f.Kind).a0 (rulesP f.Kind).a1 false (by have := h5.1; omega) h5.2
 have hv := f_names f.Vars (rulesP f.Kind).v0 (rulesP f.Kind).v1 true (by have := h4.1; omega) h4.2
 unfold shapedP
 generalize rulesP f.Kind = r at *
 obtain ⟨k, ar, nm, vars, args, kids⟩ := f
 simp only at *
 refine Tri.enter 105 Tryz.func169 rfl rfl rfl rfl fun Fr w0 => ?_
 repeat' (first | (refine AW.r 0 ?_; (refine AL.d (AOp.box_ro (v := .st [.int .i64 k, .int .i64 ar, .str nm, strs vars, strs args, .sl (kids.map GFml.av)]) rfl rfl) ?_) <;> refine AL.es 1 ?_ <;> refine AL.nil ?_) | (refine xS 1 2 ?_; refine AL.d (AOp.call rfl rfl hr) ?_; refine AL.alloc_store (by kernel_rfl) rfl rfl rfl rfl ?_; refine AL.nil ?_) | refine AW.go ?_ | fail)
 refine AW.cut (fun af ah => ∃ v : Bool, af = [(1, .at (.st [.int .i64 k, .int .i64 ar, .str nm, strs vars, strs args, .sl (kids.map GFml.av)])), (3, .at r.av), (40, .bool v)] ∧ ah = [] ∧ v = !shp1 r ⟨k, ar, nm, vars, args, kids⟩) ?_ ?_
 ·repeat' (first | (refine xS 2 4 ?_; refine AL.d (AOp.index_at (fs := [.int .i64 r.k0, .int .i64 r.k1]) (n := 2) (sz := 1) (zc := [.int .i64 0, .int .i64 0]) rfl rfl (by decide) (by decide) rfl (by kernel_rfl) rfl) ?_; refine AL.es 3 ?_; ((refine AL.gx (fun hb => ?_) (fun hb => ?_) <;> refine AL.es 4 ?_)) <;> (first | (refine AL.gd ?_; refine AL.d (AOp.index_at (fs := [.int .i64 r.k0, .int .i64 r.k1]) (n := 2) (sz := 1) (zc := [.int .i64 0, .int .i64 0]) rfl rfl (by decide) (by decide) rfl (by kernel_rfl) rfl) ?_) | refine AL.gs ?_) <;> refine AL.es 4 ?_ <;> (first | refine AL.es 5 ?_ | (refine AL.gx (fun hb => ?_) (fun hb => ?_) <;> refine AL.es 5 ?_)) <;> (first | (refine AL.gd ?_; (refine AL.d AOp.bn ?_)) | refine AL.gs ?_) <;> refine AL.es 2 ?_ <;> (first | refine AL.es 3 ?_ | (refine AL.gx (fun hb => ?_) (fun hb => ?_) <;> refine AL.es 3 ?_)) <;> (first | refine AL.es 2 ?_ | (refine AL.gx (fun hb => ?_) (fun hb => ?_) <;> refine AL.es 2 ?_)) <;> (first | (refine AL.gd ?_; refine AL.d (AOp.call rfl rfl hn) ?_) | refine AL.gs ?_ | refine AL.gu ?_) <;> refine AL.es 3 ?_ <;> refine AL.nil ?_) | fail)
  all_goals refine AW.meet [1, 3, 40] ⟨_, rfl, rfl, ?_⟩
  all_goals clear ha hv hr h1 h2 h3 h4 h5 h6 h7 hn
  all_goals simp only [shp1, empB, toList_beq, lM, dT, dF] at *
  all_goals generalize nameB nm = B at *
  all_goals generalize r.named = M at *
  ·rw [decide_eq_false (by omega : ¬ r.k0 ≤ kids.length)]; rfl
  ·rw [decide_eq_false (by omega : ¬ (kids.length : Int) ≤ r.k1)]; simp
  all_goals rw [decide_eq_true (by omega : r.k0 ≤ kids.length), decide_eq_true (by omega : (kids.length : Int) ≤ r.k1)]
  all_goals (cases M <;> by_cases q : nm = ⟨#[]⟩ <;> cases B <;> simp_all)
 rintro af ah ⟨v, rfl, rfl, hv1⟩
 cases v with
 | true =>
  repeat' (first | refine AW.re 3 1 ?_ | refine AW.jt ?_ | fail)
  have e : shp1 r ⟨k, ar, nm, vars, args, kids⟩ = false := by simpa using hv1
  exact AW.retv rfl ⟨by rw [e]; rfl, rfl⟩
 | false =>
 have e1 : shp1 r ⟨k, ar, nm, vars, args, kids⟩ = true := by simpa using hv1
 rw [e1, Bool.true_and]
 clear hv1 e1
 repeat' (first | refine AW.jf ?_ | refine AW.go ?_ | fail)
 refine AW.cut (fun af ah => ∃ v : Bool, af = [(1, .at (.st [.int .i64 k, .int .i64 ar, .str nm, strs vars, strs args, .sl (kids.map GFml.av)])), (3, .at r.av), (70, .bool v)] ∧ ah = [] ∧ v = !shp2 r ⟨k, ar, nm, vars, args, kids⟩) ?_ ?_
 ·have hvl := h4.1
  repeat' (first | (refine xS 4 4 ?_; ((refine AL.gx (fun hb => ?_) (fun hb => ?_) <;> refine AL.es 5 ?_)) <;> (first | refine AL.es 5 ?_ | (refine AL.gx (fun hb => ?_) (fun hb => ?_) <;> refine AL.es 5 ?_)) <;> (first | refine AL.es 5 ?_ | (refine AL.gx (fun hb => ?_) (fun hb => ?_) <;> refine AL.es 5 ?_)) <;> (first | refine AL.es 4 ?_ | (refine AL.gx (fun hb => ?_) (fun hb => ?_) <;> refine AL.es 4 ?_)) <;> (first | refine AL.es 3 ?_ | (refine AL.gx (fun hb => ?_) (fun hb => ?_) <;> refine AL.es 3 ?_)) <;> (first | (refine AL.gd ?_; refine AL.d (AOp.rem rfl rfl (by simp only [lM]; omega) (by decide)) ?_) | refine AL.gs ?_ | refine AL.gu ?_) <;> refine AL.es 3 ?_ <;> refine AL.nil ?_) | fail)
  all_goals refine AW.meet [1, 3, 70] ⟨_, rfl, rfl, ?_⟩
  all_goals clear ha hv hr h1 h2 h3 h4 h5 h6 h7 hn
  all_goals simp only [shp2, lM, dT, dF, Bool.not_eq_true', Bool.not_eq_false', bne_iff_ne, ne_eq, bne_eq_false_iff_eq, beq_iff_eq, beq_eq_false_iff_ne] at *
  all_goals first
   | (by_cases g : (vars.length : Int) % 2 = 0 <;> simp_all <;> omega)
   | (simp_all <;> omega)
 rintro af ah ⟨v, rfl, rfl, hv2⟩
 cases v with
 | true =>
  repeat' (first | refine AW.re 5 1 ?_ | refine AW.jt ?_ | fail)
  have e : shp2 r ⟨k, ar, nm, vars, args, kids⟩ = false := by simpa using hv2
  exact AW.retv rfl ⟨by rw [e]; rfl, rfl⟩
 | false =>
 have e1 : shp2 r ⟨k, ar, nm, vars, args, kids⟩ = true := by simpa using hv2
 rw [e1, Bool.true_and]
 clear hv2 e1
 repeat' (first | refine AW.jf ?_ | refine AW.go ?_ | fail)
 repeat' (first | (refine xS 6 3 ?_; refine AL.d (AOp.index_at (fs := [.int .i64 r.a0, .int .i64 r.a1]) (n := 2) (sz := 1) (zc := [.int .i64 0, .int .i64 0]) rfl rfl (by decide) (by decide) rfl (by kernel_rfl) rfl) ?_; refine AL.es 2 ?_; refine AL.d (AOp.index_at (fs := [.int .i64 r.a0, .int .i64 r.a1]) (n := 2) (sz := 1) (zc := [.int .i64 0, .int .i64 0]) rfl rfl (by decide) (by decide) rfl (by kernel_rfl) rfl) ?_; refine AL.es 1 ?_; refine AL.d (AOp.call rfl rfl ha) ?_; refine AL.es 1 ?_; ((refine AL.gx (fun hb => ?_) (fun hb => ?_) <;> refine AL.es 3 ?_)) <;> (first | (refine AL.gd ?_; (refine AL.d (AOp.index_at (fs := [.int .i64 r.v0, .int .i64 r.v1]) (n := 2) (sz := 1) (zc := [.int .i64 0, .int .i64 0]) rfl rfl (by decide) (by decide) rfl (by kernel_rfl) rfl) ?_)) | refine AL.gs ?_) <;> refine AL.es 2 ?_ <;> (first | (refine AL.gd ?_; (refine AL.d (AOp.index_at (fs := [.int .i64 r.v0, .int .i64 r.v1]) (n := 2) (sz := 1) (zc := [.int .i64 0, .int .i64 0]) rfl rfl (by decide) (by decide) rfl (by kernel_rfl) rfl) ?_)) | refine AL.gs ?_) <;> refine AL.es 1 ?_ <;> (first | (refine AL.gd ?_; (refine AL.d (AOp.call rfl rfl hv) ?_)) | refine AL.gs ?_) <;> refine AL.es 2 ?_ <;> (first | refine AL.es 4 ?_ | (refine AL.gx (fun hb => ?_) (fun hb => ?_) <;> refine AL.es 4 ?_)) <;> (first | refine AL.es 10 ?_ | (refine AL.gx (fun hb => ?_) (fun hb => ?_) <;> refine AL.es 10 ?_)) <;> refine AL.nil ?_) | fail)
 all_goals refine AW.retv rfl ⟨?_, rfl⟩
 all_goals clear ha hv hr h1 h2 h3 h4 h5 h6 h7 hn
 all_goals refine retB ?_
 all_goals simp only [shp3, lM, Bool.not_eq_true', Bool.not_eq_false'] at *
 all_goals generalize (decide (r.a0 ≤ args.length) && decide ((args.length : Int) ≤ r.a1) && namesG true false [] args) = A at *
 all_goals generalize (decide (r.v0 ≤ vars.length) && decide ((vars.length : Int) ≤ r.v1) && namesG true true [] vars) = B at *
 all_goals first
  | (simp [*]; done)
  | (simp only [*, Bool.not_true, Bool.false_or, Bool.true_and]; rw [Bool.eq_iff_iff]; simp; done)
  | (simp only [*, Bool.not_true, Bool.false_or, Bool.true_and]; rw [Bool.eq_iff_iff]; simp; omega)
def shr0 (f : GFml) : Bool := namesG true false [] f.Args && namesG true false [] f.Vars && namesG false true [] f.Vars && !(decide ((f.Vars.length : Int) > 12) && (f.Kind != 10)) && !((f.Kind != 11) && (f.Arity != 0))
def isE (s : ByteArray) : Bool := s.toList == ByteArray.toList ⟨#[]⟩
def shr1 (f : GFml) : Bool :=
 bif f.Kind == 0 then nameB f.Name && ((f.Kids.length : Int) + f.Vars.length == 0) && decide ((f.Args.length : Int) ≤ 12)
 else bif f.Kind == 1 || f.Kind == 2 then isE f.Name && ((f.Kids.length : Int) + f.Vars.length == 0) && ((f.Args.length : Int) == 2)
 else bif f.Kind == 3 then isE f.Name && ((f.Kids.length : Int) == 1) && ((f.Vars.length : Int) + f.Args.length == 0)
 else bif f.Kind == 4 || f.Kind == 5 then isE f.Name && ((f.Vars.length : Int) + f.Args.length == 0)
 else bif f.Kind == 6 || f.Kind == 7 then isE f.Name && ((f.Kids.length : Int) == 1) && decide ((f.Vars.length : Int) > 0) && ((f.Args.length : Int) == 0)
 else bif f.Kind == 8 || f.Kind == 9 then nameB f.Name && ((f.Kids.length : Int) == 1) && decide ((f.Vars.length : Int) > 0) && ((f.Args.length : Int) == f.Vars.length)
 else bif f.Kind == 10 then isE f.Name && ((f.Kids.length : Int) == 1) && decide ((f.Vars.length : Int) > 1) && decide ((f.Vars.length : Int) ≤ 24) && ((f.Vars.length : Int) % 2 == 0) && ((f.Args.length : Int) == f.Vars.length)
 else bif f.Kind == 11 then nameB f.Name && ((f.Kids.length : Int) == 1) && ((f.Vars.length : Int) + f.Args.length == 0) && decide (f.Arity ≥ 0) && decide (f.Arity ≤ 12)
 else false
theorem ref_shape (f : GFml) (hf : f.Ok) : Tri Tryz.prog 90 [f.st] [] (D (.bool (shr0 f && shr1 f)) []) := by
 obtain ⟨⟨h1, h2, h3, h4, h5⟩, h6, h7⟩ := hf
 have l4 := h4.1
 have l5 := h5.1
 have hn := ref_Name f.Name h3
 have ha := ref_names f.Args (by omega) h5.2
 have hv := ref_names f.Vars (by omega) h4.2
 have hd := ref_Different f.Vars (by omega)
 obtain ⟨k, ar, nm, vars, args, kids⟩ := f
 simp only at *
 refine Tri.enter 198 Tryz.func90 rfl rfl rfl rfl fun Fr w0 => ?_
 repeat' (first | (refine AW.r 0 ?_; (refine AL.d (AOp.box_ro (v := .st [.int .i64 k, .int .i64 ar, .str nm, strs vars, strs args, .sl (kids.map GFml.av)]) rfl rfl) ?_) <;> refine AL.es 1 ?_ <;> refine AL.nil ?_) | (refine AW.dq 1 ?_; refine AQ.es 16 ?_; refine AQ.nil ?_) | refine AW.go ?_ | fail)
 refine AW.cut (fun af ah => ∃ v : Bool, af = [(1, .at (.st [.int .i64 k, .int .i64 ar, .str nm, strs vars, strs args, .sl (kids.map GFml.av)])), (3, .int .i64 (kids.map GFml.av).length), (4, .int .i64 (vars.map AV.str).length), (5, .int .i64 (args.map AV.str).length), (6, .bool (!(nm.toList == ByteArray.toList ⟨#[]⟩))), (53, .bool v)] ∧ ah = [] ∧ v = !shr0 ⟨k, ar, nm, vars, args, kids⟩) ?_ ?_
 ·repeat' (first | (refine xS 2 2 ?_; refine AL.d (AOp.call rfl rfl ha) ?_; refine AL.es 2 ?_; ((refine AL.gx (fun hb => ?_) (fun hb => ?_) <;> refine AL.es 2 ?_)) <;> (first | (refine AL.gd ?_; (refine AL.d (AOp.call rfl rfl hv) ?_)) | refine AL.gs ?_) <;> refine AL.es 3 ?_ <;> (first | refine AL.es 2 ?_ | (refine AL.gx (fun hb => ?_) (fun hb => ?_) <;> refine AL.es 2 ?_)) <;> (first | (refine AL.gd ?_; (refine AL.d (AOp.call rfl rfl hd) ?_)) | refine AL.gs ?_) <;> refine AL.es 3 ?_ <;> (first | refine AL.es 3 ?_ | (refine AL.gx (fun hb => ?_) (fun hb => ?_) <;> refine AL.es 3 ?_)) <;> (first | refine AL.es 6 ?_ | (refine AL.gx (fun hb => ?_) (fun hb => ?_) <;> refine AL.es 6 ?_)) <;> (first | refine AL.es 4 ?_ | (refine AL.gx (fun hb => ?_) (fun hb => ?_) <;> refine AL.es 4 ?_)) <;> (first | refine AL.es 5 ?_ | (refine AL.gx (fun hb => ?_) (fun hb => ?_) <;> refine AL.es 5 ?_)) <;> refine AL.nil ?_) | fail)
  all_goals refine AW.meet [1, 3, 4, 5, 6, 53] ⟨_, rfl, rfl, ?_⟩
  all_goals clear ha hv hd l4 l5 h1 h2 h3 h4 h5 h6 h7 hn
  all_goals simp only [lM, Bool.not_eq_true', Bool.not_eq_false'] at *
  all_goals (simp only [shr0, *]; first | rfl | simp | fail)
 rintro af ah ⟨v, rfl, rfl, hv1⟩
 cases v with
 | true =>
  repeat' (first | refine AW.re 3 1 ?_ | refine AW.jt ?_ | fail)
  have e : shr0 ⟨k, ar, nm, vars, args, kids⟩ = false := by simpa using hv1
  exact AW.retv rfl ⟨by rw [e]; rfl, rfl⟩
 | false =>
 have e1 : shr0 ⟨k, ar, nm, vars, args, kids⟩ = true := by simpa using hv1
 rw [e1, Bool.true_and]
 clear hv1 e1
 repeat' (first | refine AW.re 4 2 ?_ | refine AW.re 5 2 ?_ | (refine xS 6 2 ?_; refine AL.d (AOp.call rfl rfl hn) ?_; refine AL.es 1 ?_; ((refine AL.gx (fun hb => ?_) (fun hb => ?_) <;> refine AL.es 2 ?_)) <;> (first | (refine AL.gd ?_; ((refine AL.d (AOp.add rfl rfl (by simp only [lM]; omega)) ?_))) | refine AL.gs ?_) <;> refine AL.es 3 ?_ <;> (first | refine AL.es 4 ?_ | (refine AL.gx (fun hb => ?_) (fun hb => ?_) <;> refine AL.es 4 ?_)) <;> refine AL.nil ?_) | refine AW.re 7 2 ?_ | refine AW.re 8 2 ?_ | (refine xS 9 3 ?_; ((refine AL.gx (fun hb => ?_) (fun hb => ?_) <;> refine AL.es 2 ?_)) <;> (first | (refine AL.gd ?_; ((refine AL.d (AOp.add rfl rfl (by simp only [lM]; omega)) ?_))) | refine AL.gs ?_) <;> refine AL.es 3 ?_ <;> (first | refine AL.es 4 ?_ | (refine AL.gx (fun hb => ?_) (fun hb => ?_) <;> refine AL.es 4 ?_)) <;> refine AL.nil ?_) | refine AW.re 10 2 ?_ | (refine xS 11 3 ?_; ((refine AL.gx (fun hb => ?_) (fun hb => ?_) <;> refine AL.es 4 ?_)) <;> (first | refine AL.es 2 ?_ | (refine AL.gx (fun hb => ?_) (fun hb => ?_) <;> refine AL.es 2 ?_)) <;> (first | (refine AL.gd ?_; ((refine AL.d (AOp.add rfl rfl (by simp only [lM]; omega)) ?_))) | refine AL.gs ?_) <;> refine AL.es 3 ?_ <;> refine AL.nil ?_) | refine AW.re 12 2 ?_ | refine AW.re 13 2 ?_ | (refine xS 14 3 ?_; ((refine AL.gx (fun hb => ?_) (fun hb => ?_) <;> refine AL.es 2 ?_)) <;> (first | (refine AL.gd ?_; ((refine AL.d (AOp.add rfl rfl (by simp only [lM]; omega)) ?_))) | refine AL.gs ?_) <;> refine AL.es 3 ?_ <;> refine AL.nil ?_) | refine AW.re 15 2 ?_ | refine AW.re 16 2 ?_ | (refine xS 17 3 ?_; ((refine AL.gx (fun hb => ?_) (fun hb => ?_) <;> refine AL.es 4 ?_)) <;> (first | refine AL.es 4 ?_ | (refine AL.gx (fun hb => ?_) (fun hb => ?_) <;> refine AL.es 4 ?_)) <;> (first | refine AL.es 4 ?_ | (refine AL.gx (fun hb => ?_) (fun hb => ?_) <;> refine AL.es 4 ?_)) <;> refine AL.nil ?_) | refine AW.re 18 2 ?_ | refine AW.re 19 2 ?_ | (refine xS 20 2 ?_; refine AL.d (AOp.call rfl rfl hn) ?_; refine AL.es 1 ?_; ((refine AL.gx (fun hb => ?_) (fun hb => ?_) <;> refine AL.es 4 ?_)) <;> (first | refine AL.es 4 ?_ | (refine AL.gx (fun hb => ?_) (fun hb => ?_) <;> refine AL.es 4 ?_)) <;> (first | refine AL.es 5 ?_ | (refine AL.gx (fun hb => ?_) (fun hb => ?_) <;> refine AL.es 5 ?_)) <;> refine AL.nil ?_) | refine AW.re 21 2 ?_ | (refine xS 22 3 ?_; ((refine AL.gx (fun hb => ?_) (fun hb => ?_) <;> refine AL.es 4 ?_)) <;> (first | refine AL.es 4 ?_ | (refine AL.gx (fun hb => ?_) (fun hb => ?_) <;> refine AL.es 4 ?_)) <;> (first | refine AL.es 4 ?_ | (refine AL.gx (fun hb => ?_) (fun hb => ?_) <;> refine AL.es 4 ?_)) <;> (first | refine AL.es 1 ?_ | (refine AL.gx (fun hb => ?_) (fun hb => ?_) <;> refine AL.es 1 ?_)) <;> (first | (refine AL.gd ?_; ((refine AL.d (AOp.rem rfl rfl (by simp only [lM]; omega) (by decide)) ?_))) | refine AL.gs ?_) <;> refine AL.es 3 ?_ <;> (first | refine AL.es 5 ?_ | (refine AL.gx (fun hb => ?_) (fun hb => ?_) <;> refine AL.es 5 ?_)) <;> refine AL.nil ?_) | refine AW.re 23 2 ?_ | (refine xS 24 2 ?_; refine AL.d (AOp.call rfl rfl hn) ?_; refine AL.es 1 ?_; ((refine AL.gx (fun hb => ?_) (fun hb => ?_) <;> refine AL.es 4 ?_)) <;> (first | refine AL.es 2 ?_ | (refine AL.gx (fun hb => ?_) (fun hb => ?_) <;> refine AL.es 2 ?_)) <;> (first | (refine AL.gd ?_; ((refine AL.d (AOp.add rfl rfl (by simp only [lM]; omega)) ?_))) | refine AL.gs ?_) <;> refine AL.es 3 ?_ <;> (first | refine AL.es 5 ?_ | (refine AL.gx (fun hb => ?_) (fun hb => ?_) <;> refine AL.es 5 ?_)) <;> (first | refine AL.es 5 ?_ | (refine AL.gx (fun hb => ?_) (fun hb => ?_) <;> refine AL.es 5 ?_)) <;> refine AL.nil ?_) | refine AW.re 25 1 ?_ | refine AW.jf ?_ | refine AW.jj (fun hb => ?_) (fun hb => ?_) | fail)
 all_goals refine AW.retv rfl ⟨?_, rfl⟩
 all_goals clear ha hv hd h1 h2 h3 h4 h5 h6 h7 hn l4 l5
 all_goals first | refine retB ?_ | refine congrArg (fun b => AEnd.ret (AV.bool b)) ?_
 all_goals try simp only [lM, Bool.not_not] at *
 all_goals (simp only [shr1, isE, *, cond_true, cond_false, Bool.true_or, Bool.or_true, Bool.or_self, Bool.true_and, Bool.and_true, Bool.false_and, Bool.and_false])
 all_goals (exfalso; simp_all only [reduceCtorEq])
theorem not_isE {s : ByteArray} (h : nameB s = true) : isE s = false := by
 unfold isE
 rw [toList_beq, dF]
 rintro rfl
 simp [nameB, ByteArray.size] at h
theorem shape_eq (f : GFml) (hk : f.Kids.length ≤ 1073741824) : (shr0 f && shr1 f) = shapedP f := by
 obtain ⟨k, ar, nm, vars, args, kids⟩ := f
 have hsp := namesG_split vars [] true true
 have hln : decide (vars.length = args.length) = decide ((vars.length : Int) = args.length) := decide_eq_decide.2 (by omega)
 have p1 : 0 ≤ (kids.length : Int) := by omega
 have p4 : (kids.length : Int) ≤ 1073741824 := by simp only at hk; omega
 clear hk
 have p2 : 0 ≤ (vars.length : Int) := by omega
 have p3 : 0 ≤ (args.length : Int) := by omega
 have hne := not_isE (s := nm)
 have hem : decide (nm = empB) = isE nm := (toList_beq nm empB).symm
 simp only [shr0, shr1, shapedP, shp1, shp2, shp3, hem, hsp, hln]
 clear hem hsp hln
 generalize isE nm = E at *
 generalize nameB nm = B at *
 generalize namesG true false [] args = A at *
 generalize namesG true false [] vars = V at *
 generalize namesG false true [] vars = W at *
 generalize (args.length : Int) = na at *
 generalize (vars.length : Int) = nv at *
 generalize (kids.length : Int) = nk at *
 by_cases k0 : k = 0
 ·subst k0; rw [Bool.eq_iff_iff]; simp [rulesP]; cases A <;> cases V <;> cases W <;> cases B <;> cases E <;> simp_all <;> omega
 by_cases k1 : k = 1
 ·subst k1; clear k0; rw [Bool.eq_iff_iff]; simp [rulesP]; cases A <;> cases V <;> cases W <;> cases B <;> cases E <;> simp_all <;> omega
 by_cases k2 : k = 2
 ·subst k2; clear k0 k1; rw [Bool.eq_iff_iff]; simp [rulesP]; cases A <;> cases V <;> cases W <;> cases B <;> cases E <;> simp_all <;> omega
 by_cases k3 : k = 3
 ·subst k3; clear k0 k1 k2; rw [Bool.eq_iff_iff]; simp [rulesP]; cases A <;> cases V <;> cases W <;> cases B <;> cases E <;> simp_all <;> omega
 by_cases k4 : k = 4
 ·subst k4; clear k0 k1 k2 k3; rw [Bool.eq_iff_iff]; simp [rulesP]; cases A <;> cases V <;> cases W <;> cases B <;> cases E <;> simp_all <;> omega
 by_cases k5 : k = 5
 ·subst k5; clear k0 k1 k2 k3 k4; rw [Bool.eq_iff_iff]; simp [rulesP]; cases A <;> cases V <;> cases W <;> cases B <;> cases E <;> simp_all <;> omega
 by_cases k6 : k = 6
 ·subst k6; clear k0 k1 k2 k3 k4 k5; rw [Bool.eq_iff_iff]; simp [rulesP]; cases A <;> cases V <;> cases W <;> cases B <;> cases E <;> simp_all <;> omega
 by_cases k7 : k = 7
 ·subst k7; clear k0 k1 k2 k3 k4 k5 k6; rw [Bool.eq_iff_iff]; simp [rulesP]; cases A <;> cases V <;> cases W <;> cases B <;> cases E <;> simp_all <;> omega
 by_cases k8 : k = 8
 ·subst k8; clear k0 k1 k2 k3 k4 k5 k6 k7; rw [Bool.eq_iff_iff]; simp [rulesP]; cases A <;> cases V <;> cases W <;> cases B <;> cases E <;> simp_all <;> omega
 by_cases k9 : k = 9
 ·subst k9; clear k0 k1 k2 k3 k4 k5 k6 k7 k8; rw [Bool.eq_iff_iff]; simp [rulesP]; cases A <;> cases V <;> cases W <;> cases B <;> cases E <;> simp_all <;> omega
 by_cases k10 : k = 10
 ·subst k10; clear k0 k1 k2 k3 k4 k5 k6 k7 k8 k9; rw [Bool.eq_iff_iff]; simp [rulesP]; cases A <;> cases V <;> cases W <;> cases B <;> cases E <;> simp_all <;> omega
 by_cases k11 : k = 11
 ·subst k11; clear k0 k1 k2 k3 k4 k5 k6 k7 k8 k9 k10; rw [Bool.eq_iff_iff]; simp [rulesP]; cases A <;> cases V <;> cases W <;> cases B <;> cases E <;> simp_all <;> omega
 have e : rulesP k = ⟨1, 0, 0, 0, 0, 0, false, false, false⟩ := by simp [rulesP, *]
 rw [Bool.eq_iff_iff, e]
 simp [*]
 intros; omega
def wS (most : Int) : List ByteArray → Int → Int
 | [], a => a
 | s :: l, a => if a ≤ most then wS most l (a + (s.size : Int) / 100) else a
mutual
def wF (most : Int) : GFml → Int → Int
 | ⟨k, ar, nm, vars, args, kids⟩, a => wFs most kids (wS most args (wS most vars (a + 1 + vars.length + args.length + (nm.size : Int) / 100)))
def wFs (most : Int) : List GFml → Int → Int
 | [], a => a
 | s :: l, a => if a ≤ most then wFs most l (wF most s a) else a
end
theorem wS_bd {most M : Int} (hM : 1407374883554 ≤ M) : ∀ (l : List ByteArray) (a : Int), (∀ x ∈ l, strOk x) → 0 ≤ a → a ≤ most + M → 0 ≤ wS most l a ∧ wS most l a ≤ most + M
 | [], a, h, h0, h1 => ⟨h0, h1⟩
 | s :: l, a, h, h0, h1 => by
  rw [wS]
  by_cases hc : a ≤ most
  ·rw [if_pos hc]
   have e1 := h s (by simp)
   unfold strOk at e1
   exact wS_bd hM l _ (fun x hx => h x (List.mem_cons_of_mem _ hx)) (by omega) (by omega)
  ·rw [if_neg hc]; exact ⟨h0, h1⟩
mutual
theorem wF_bd {most : Int} : ∀ (f : GFml) (a : Int), f.Ok → 0 ≤ a → a ≤ most → 0 ≤ wF most f a ∧ wF most f a ≤ most + 20000000000000
 | ⟨k, ar, nm, vars, args, kids⟩, a, h, h0, h1 => by
  rw [wF]
  obtain ⟨⟨_, _, q3, q4, q5⟩, q6, q7⟩ := h
  have l4 := q4.1
  have l5 := q5.1
  unfold strOk at q3
  simp only at l4 l5 q3 q4 q5
  have e1 := wS_bd (most := most) (M := 20000000000000) (by omega) vars (a + 1 + vars.length + args.length + (nm.size : Int) / 100) q4.2 (by omega) (by omega)
  have e2 := wS_bd (most := most) (M := 20000000000000) (by omega) args _ q5.2 e1.1 e1.2
  exact wFs_bd kids _ q7 e2.1 e2.2
theorem wFs_bd {most : Int} : ∀ (l : List GFml) (a : Int), (∀ x ∈ l, x.Ok) → 0 ≤ a → a ≤ most + 20000000000000 → 0 ≤ wFs most l a ∧ wFs most l a ≤ most + 20000000000000
 | [], a, h, h0, h1 => by simp only [wFs]; exact ⟨h0, h1⟩
 | s :: l, a, h, h0, h1 => by
  rw [wFs]
  by_cases hc : a ≤ most
  ·rw [if_pos hc]
   have e1 := wF_bd s a (h s (by simp)) h0 hc
   exact wFs_bd l _ (fun x hx => h x (List.mem_cons_of_mem _ hx)) e1.1 e1.2
  ·rw [if_neg hc]; exact ⟨h0, h1⟩
end
theorem GFml.kid_lt {f x : GFml} (h : x ∈ f.Kids) : SizeOf.sizeOf x < SizeOf.sizeOf f := by
 cases f with
 | mk k ar nm vars args kids =>
  have := List.sizeOf_lt_of_mem h
  simp only at this
  simp only [GFml.mk.sizeOf_spec]
  omega
theorem law_weigh (most : Int) (hm : 0 ≤ most ∧ most ≤ 1000000) : ∀ (N : Nat) (f : GFml) (a : Int) (hN : SizeOf.sizeOf f ≤ N) (ho : f.Ok) (h0 : 0 ≤ a) (h1 : a ≤ most),
  Tri Tryz.prog 44 [f.st, .int .i64 a, .int .i64 most] [] (D (.int .i64 (wF most f a)) []) := by
 intro N
 induction N using Nat.strongRecOn with
 | _ N ih =>
  intro f a hN ho h0 h1
  obtain ⟨k, ar, nm, vars, args, kids⟩ := f
  obtain ⟨⟨_, _, q3, q4, q5⟩, q6, q7⟩ := ho
  have l4 := q4.1
  have l5 := q5.1
  unfold strOk at q3
  simp only at q3 q4 q5 q6 q7 l4 l5
  have w0e : wF most ⟨k, ar, nm, vars, args, kids⟩ a = wFs most kids (wS most args (wS most vars (a + 1 + vars.length + args.length + (nm.size : Int) / 100))) := by rw [wF]
  have e1 := wS_bd (most := most) (M := 20000000000000) (by omega) vars (a + 1 + vars.length + args.length + (nm.size : Int) / 100) q4.2 (by omega) (by omega)
  have e2 := wS_bd (most := most) (M := 20000000000000) (by omega) args _ q5.2 e1.1 e1.2
  have e0 : 0 ≤ a + 1 + vars.length + args.length + (nm.size : Int) / 100 ∧ a + 1 + vars.length + args.length + (nm.size : Int) / 100 ≤ most + 20000000000000 := by omega
  rw [w0e]
  have lv : (vars.map AV.str).length = vars.length := lM _
  have la : (args.map AV.str).length = args.length := lM _
  have hq : a + 1 + ((vars.map AV.str).length : Nat) + ((args.map AV.str).length : Nat) + (nm.size : Int) / 100 = a + 1 + vars.length + args.length + (nm.size : Int) / 100 := by rw [lv, la]
  rw [← hq] at e0 e1 e2 ⊢
  generalize hA : a + 1 + ((vars.map AV.str).length : Nat) + ((args.map AV.str).length : Nat) + (nm.size : Int) / 100 = A at *
  refine Tri.enter 88 Tryz.func44 rfl rfl rfl rfl fun Fr w0 => ?_
  repeat' (first | (refine AW.r 0 ?_; (refine AL.d (AOp.box_ro (v := .st [.int .i64 k, .int .i64 ar, .str nm, strs vars, strs args, .sl (kids.map GFml.av)]) rfl rfl) ?_) <;> refine AL.es 1 ?_ <;> refine AL.nil ?_) | (refine xS 1 1 ?_; refine AL.d AOp.ad ?_; refine AL.es 3 ?_; refine AL.d AOp.ad ?_; refine AL.es 3 ?_; refine AL.d AOp.ad ?_; refine AL.es 3 ?_; refine AL.d (AOp.quo rfl rfl (by omega) (by omega)) ?_; refine AL.d AOp.ad ?_; refine xN 1 ?_) | refine AW.go ?_ | fail)
  rw [hA]
  refine AW.re 2 1 ?_
  refine AW.cut (fun af ah => af = [(1, .int .i64 (wS most vars A)), (2, .int .i64 most), (3, .at (.st [.int .i64 k, .int .i64 ar, .str nm, strs vars, strs args, .sl (kids.map GFml.av)]))] ∧ ah = []) ?_ ?_
  ·repeat' (first | refine AW.go ?_ | fail)
   refine AW.prune [1, 2, 3, 7] (AW.loop (fun mz af h => ∃ (i : Nat) (b : Int), i ≤ vars.length ∧ mz = vars.length - i ∧ af = [(1, .int .i64 b), (2, .int .i64 most), (3, .at (.st [.int .i64 k, .int .i64 ar, .str nm, strs vars, strs args, .sl (kids.map GFml.av)])), (7, .int .i64 i)] ∧ h = [] ∧ 0 ≤ b ∧ b ≤ most + 20000000000000 ∧ wS most vars A = wS most (vars.drop i) b) vars.length ⟨0, _, Nat.zero_le _, rfl, rfl, rfl, e0.1, e0.2, rfl⟩ ?_)
   rintro mz af h ⟨i, b, hi, rfl, rfl, rfl, g0, g1, he⟩
   refine AW.seq ?_
   by_cases hlt : i < vars.length ∧ b ≤ most
   ·obtain ⟨x, hx⟩ := get_lt hlt.1
    have hx' : (vars.map AV.str)[((i : Nat) : Int).toNat]? = some (.str x) := map_get hx
    have hxm := lG hx
    rw [drop_cons hx, wS, if_pos hlt.2] at he
    have hs := q4.2 x hxm
    unfold strOk at hs
    repeat' (first | (refine xS 3 6 ?_; ((refine AL.gx (fun hb => ?_) (fun hb => ?_) <;> refine AL.es 4 ?_)) <;> refine AL.nil ?_) | (refine xS 5 4 ?_; refine AL.d (iX hx') ?_; refine AL.es 2 ?_; refine AL.d (AOp.quo rfl rfl (by omega) (by omega)) ?_; refine AL.d AOp.ad ?_; refine xN 1 ?_) | (refine xS 4 1 ?_; refine AL.d AOp.ad ?_; refine xN 1 ?_) | refine AW.jf ?_ | refine AW.jj (fun hb => ?_) (fun hb => ?_) | refine AW.go ?_ | fail)
    all_goals first
     | (exfalso; simp only [dT, dF, lM] at *; omega)
     | exact AW.again_keep (vars.length - (i + 1)) [1, 2, 3, 7] (by omega) ⟨i + 1, b + (x.size : Int) / 100, hlt.1, rfl, rfl, rfl, by omega, by omega, he⟩
   have he' : wS most vars A = b := by
    rw [he]
    by_cases hd : i < vars.length
    ·obtain ⟨x, hx⟩ := get_lt hd
     rw [drop_cons hx, wS, if_neg (by omega)]
    ·rw [List.drop_eq_nil_of_le (by omega), wS]
   subst he'
   clear he g0 g1
   repeat' (first | (refine xS 3 6 ?_; ((refine AL.gx (fun hb => ?_) (fun hb => ?_) <;> refine AL.es 4 ?_)) <;> refine AL.nil ?_) | refine AW.jf ?_ | refine AW.jj (fun hb => ?_) (fun hb => ?_) | refine AW.go ?_ | fail)
   all_goals try (exfalso; simp only [dT, dF, lM] at *; omega)
   all_goals exact AW.meet [1, 2, 3] ⟨rfl, rfl⟩
  rintro af ah ⟨rfl, rfl⟩
  refine AW.re 6 1 ?_
  refine AW.cut (fun af ah => af = [(1, .int .i64 (wS most args (wS most vars A))), (2, .int .i64 most), (3, .at (.st [.int .i64 k, .int .i64 ar, .str nm, strs vars, strs args, .sl (kids.map GFml.av)]))] ∧ ah = []) ?_ ?_
  ·repeat' (first | refine AW.go ?_ | fail)
   refine AW.prune [1, 2, 3, 8] (AW.loop (fun mz af h => ∃ (i : Nat) (b : Int), i ≤ args.length ∧ mz = args.length - i ∧ af = [(1, .int .i64 b), (2, .int .i64 most), (3, .at (.st [.int .i64 k, .int .i64 ar, .str nm, strs vars, strs args, .sl (kids.map GFml.av)])), (8, .int .i64 i)] ∧ h = [] ∧ 0 ≤ b ∧ b ≤ most + 20000000000000 ∧ wS most args (wS most vars A) = wS most (args.drop i) b) args.length ⟨0, _, Nat.zero_le _, rfl, rfl, rfl, e1.1, e1.2, rfl⟩ ?_)
   rintro mz af h ⟨i, b, hi, rfl, rfl, rfl, g0, g1, he⟩
   refine AW.seq ?_
   by_cases hlt : i < args.length ∧ b ≤ most
   ·obtain ⟨x, hx⟩ := get_lt hlt.1
    have hx' : (args.map AV.str)[((i : Nat) : Int).toNat]? = some (.str x) := map_get hx
    have hxm := lG hx
    rw [drop_cons hx, wS, if_pos hlt.2] at he
    have hs := q5.2 x hxm
    unfold strOk at hs
    repeat' (first | (refine xS 7 6 ?_; ((refine AL.gx (fun hb => ?_) (fun hb => ?_) <;> refine AL.es 4 ?_)) <;> refine AL.nil ?_) | (refine xS 9 4 ?_; refine AL.d (iX hx') ?_; refine AL.es 2 ?_; refine AL.d (AOp.quo rfl rfl (by omega) (by omega)) ?_; refine AL.d AOp.ad ?_; refine xN 1 ?_) | (refine xS 8 1 ?_; refine AL.d AOp.ad ?_; refine xN 1 ?_) | refine AW.jf ?_ | refine AW.jj (fun hb => ?_) (fun hb => ?_) | refine AW.go ?_ | fail)
    all_goals first
     | (exfalso; simp only [dT, dF, lM] at *; omega)
     | exact AW.again_keep (args.length - (i + 1)) [1, 2, 3, 8] (by omega) ⟨i + 1, b + (x.size : Int) / 100, hlt.1, rfl, rfl, rfl, by omega, by omega, he⟩
   have he' : wS most args (wS most vars A) = b := by
    rw [he]
    by_cases hd : i < args.length
    ·obtain ⟨x, hx⟩ := get_lt hd
     rw [drop_cons hx, wS, if_neg (by omega)]
    ·rw [List.drop_eq_nil_of_le (by omega), wS]
   subst he'
   clear he g0 g1
   repeat' (first | (refine xS 7 6 ?_; ((refine AL.gx (fun hb => ?_) (fun hb => ?_) <;> refine AL.es 4 ?_)) <;> refine AL.nil ?_) | refine AW.jf ?_ | refine AW.jj (fun hb => ?_) (fun hb => ?_) | refine AW.go ?_ | fail)
   all_goals try (exfalso; simp only [dT, dF, lM] at *; omega)
   all_goals exact AW.meet [1, 2, 3] ⟨rfl, rfl⟩
  rintro af ah ⟨rfl, rfl⟩
  refine AW.re 10 1 ?_
  refine AW.cut (fun af ah => af = [(1, .int .i64 (wFs most kids (wS most args (wS most vars A)))), (2, .int .i64 most), (3, .at (.st [.int .i64 k, .int .i64 ar, .str nm, strs vars, strs args, .sl (kids.map GFml.av)]))] ∧ ah = []) ?_ ?_
  ·repeat' (first | refine AW.go ?_ | fail)
   refine AW.prune [1, 2, 3, 9] (AW.loop (fun mz af h => ∃ (i : Nat) (b : Int), i ≤ kids.length ∧ mz = kids.length - i ∧ af = [(1, .int .i64 b), (2, .int .i64 most), (3, .at (.st [.int .i64 k, .int .i64 ar, .str nm, strs vars, strs args, .sl (kids.map GFml.av)])), (9, .int .i64 i)] ∧ h = [] ∧ 0 ≤ b ∧ b ≤ most + 20000000000000 ∧ wFs most kids (wS most args (wS most vars A)) = wFs most (kids.drop i) b) kids.length ⟨0, _, Nat.zero_le _, rfl, rfl, rfl, e2.1, e2.2, rfl⟩ ?_)
   rintro mz af h ⟨i, b, hi, rfl, rfl, rfl, g0, g1, he⟩
   refine AW.seq ?_
   by_cases hlt : i < kids.length ∧ b ≤ most
   ·obtain ⟨x, hx⟩ := get_lt hlt.1
    have hx' : (kids.map GFml.av)[((i : Nat) : Int).toNat]? = some (x.st) := GFml.get hx
    have hxm := lG hx
    rw [drop_cons hx, wFs, if_pos hlt.2] at he
    have c1 := ih (SizeOf.sizeOf x) (by have := GFml.kid_lt (f := ⟨k, ar, nm, vars, args, kids⟩) hxm; omega) x b (Nat.le_refl _) (q7 x hxm) g0 hlt.2
    have e1 := wF_bd (most := most) x b (q7 x hxm) g0 hlt.2
    generalize wF most x b = r1 at *
    repeat' (first | (refine xS 11 6 ?_; ((refine AL.gx (fun hb => ?_) (fun hb => ?_) <;> refine AL.es 4 ?_)) <;> refine AL.nil ?_) | (refine xS 13 3 ?_; refine AL.d (iX hx') ?_; refine AL.es 3 ?_; refine AL.d (AOp.call rfl rfl c1) ?_; refine xN 1 ?_) | (refine xS 12 1 ?_; refine AL.d AOp.ad ?_; refine xN 1 ?_) | refine AW.jf ?_ | refine AW.jj (fun hb => ?_) (fun hb => ?_) | refine AW.go ?_ | fail)
    all_goals first
     | (exfalso; simp only [dT, dF, lM] at *; omega)
     | exact AW.again_keep (kids.length - (i + 1)) [1, 2, 3, 9] (by omega) ⟨i + 1, r1, hlt.1, rfl, rfl, rfl, e1.1, e1.2, he⟩
   have he' : wFs most kids (wS most args (wS most vars A)) = b := by
    rw [he]
    by_cases hd : i < kids.length
    ·obtain ⟨x, hx⟩ := get_lt hd
     rw [drop_cons hx, wFs, if_neg (by omega)]
    ·rw [List.drop_eq_nil_of_le (by omega), wFs]
   subst he'
   clear he g0 g1
   repeat' (first | (refine xS 11 6 ?_; ((refine AL.gx (fun hb => ?_) (fun hb => ?_) <;> refine AL.es 4 ?_)) <;> refine AL.nil ?_) | refine AW.jf ?_ | refine AW.jj (fun hb => ?_) (fun hb => ?_) | refine AW.go ?_ | fail)
   all_goals try (exfalso; simp only [dT, dF, lM] at *; omega)
   all_goals exact AW.meet [1, 2, 3] ⟨rfl, rfl⟩
  rintro af ah ⟨rfl, rfl⟩
  repeat' (first | refine AW.re 14 2 ?_ | fail)
  exact AW.retv rfl ⟨rfl, rfl⟩
theorem law_Few (most : Int) (hm : 0 ≤ most ∧ most ≤ 1000000) (l : List GFml) (hl : l.length ≤ 4611686018427387904) (ho : ∀ x ∈ l, x.Ok) :
  Tri Tryz.prog 9 [.int .i64 most, .sl (l.map GFml.av)] [] (D (.bool (decide (wFs most l 0 ≤ most))) []) := by
 refine Tri.enter 28 Tryz.func9 rfl rfl rfl rfl fun Fr w0 => ?_
 repeat' (first | refine AW.re 0 1 ?_ | refine AW.re 1 1 ?_ | refine AW.re 2 1 ?_ | refine AW.go ?_ | fail)
 refine AW.prune [0, 1, 5, 6] (AW.loop (fun mz af h => ∃ (i : Nat) (b : Int), i ≤ l.length ∧ mz = l.length - i ∧ af = [(0, .int .i64 most), (1, .sl (l.map GFml.av)), (5, .int .i64 b), (6, .int .i64 i)] ∧ h = [] ∧ 0 ≤ b ∧ b ≤ most + 20000000000000 ∧ wFs most l 0 = wFs most (l.drop i) b) l.length ⟨0, 0, Nat.zero_le _, rfl, rfl, rfl, by omega, by omega, rfl⟩ ?_)
 rintro mz af h ⟨i, b, hi, rfl, rfl, rfl, g0, g1, he⟩
 refine AW.seq ?_
 by_cases hlt : i < l.length ∧ b ≤ most
 ·obtain ⟨x, hx⟩ := get_lt hlt.1
  have hx' : (l.map GFml.av)[((i : Nat) : Int).toNat]? = some (x.st) := GFml.get hx
  have hxm := lG hx
  rw [drop_cons hx, wFs, if_pos hlt.2] at he
  have c1 := law_weigh most hm _ x b (Nat.le_refl _) (ho x hxm) g0 hlt.2
  have e1 := wF_bd (most := most) x b (ho x hxm) g0 hlt.2
  generalize wF most x b = r1 at *
  repeat' (first | (refine xS 3 5 ?_; ((refine AL.gx (fun hb => ?_) (fun hb => ?_) <;> refine AL.es 4 ?_)) <;> refine AL.nil ?_) | (refine xS 5 2 ?_; refine AL.d (iX hx') ?_; refine AL.es 3 ?_; refine AL.d (AOp.call rfl rfl c1) ?_; refine xN 1 ?_) | (refine xS 4 1 ?_; refine AL.d AOp.ad ?_; refine xN 1 ?_) | refine AW.jf ?_ | refine AW.jj (fun hb => ?_) (fun hb => ?_) | refine AW.go ?_ | fail)
  all_goals first
   | (exfalso; simp only [dT, dF, lM] at *; omega)
   | exact AW.again_keep (l.length - (i + 1)) [0, 1, 5, 6] (by omega) ⟨i + 1, r1, hlt.1, rfl, rfl, rfl, e1.1, e1.2, he⟩
 have he' : wFs most l 0 = b := by
  rw [he]
  by_cases hd : i < l.length
  ·obtain ⟨x, hx⟩ := get_lt hd
   rw [drop_cons hx, wFs, if_neg (by omega)]
  ·rw [List.drop_eq_nil_of_le (by omega), wFs]
 repeat' (first | (refine xS 3 5 ?_; ((refine AL.gx (fun hb => ?_) (fun hb => ?_) <;> refine AL.es 4 ?_)) <;> refine AL.nil ?_) | refine AW.re 6 4 ?_ | refine AW.jf ?_ | refine AW.jj (fun hb => ?_) (fun hb => ?_) | refine AW.go ?_ | fail)
 all_goals try (exfalso; simp only [dT, dF, lM] at *; omega)
 all_goals exact AW.retv rfl ⟨by rw [he'], rfl⟩
mutual
def ndF : GFml → Nat
 | ⟨_, _, _, _, _, kids⟩ => 1 + ndFs kids
def ndFs : List GFml → Nat
 | [] => 0
 | x :: l => ndF x + ndFs l
end
theorem ndF_eq (f : GFml) : ndF f = 1 + ndFs f.Kids := by cases f; rfl
theorem ndFs_len : ∀ l : List GFml, l.length ≤ ndFs l
 | [] => by simp [ndFs]
 | x :: l => by have := ndFs_len l; have := ndF_eq x; simp only [ndFs, List.length_cons]; omega
theorem ndFs_mem {l : List GFml} {x : GFml} (h : x ∈ l) : ndF x ≤ ndFs l := by
 induction l with
 | nil => cases h
 | cons y l ih =>
  rcases List.mem_cons.1 h with rfl | h
  ·simp only [ndFs]; omega
  ·have := ih h; simp only [ndFs]; omega
mutual
def ctF : GFml → Nat → Int × Int
 | ⟨_, _, _, _, _, kids⟩, lv => if lv = 0 then (1, 1) else ((ctFs kids (lv - 1) 1 0).1, (ctFs kids (lv - 1) 1 0).2 + 1)
def ctFs : List GFml → Nat → Int → Int → Int × Int
 | [], _, n, d => (n, d)
 | x :: l, lv, n, d => ctFs l lv (n + (ctF x lv).1) (max d (ctF x lv).2)
end
mutual
theorem ctF_bd : ∀ (f : GFml) (lv : Nat), 1 ≤ (ctF f lv).1 ∧ (ctF f lv).1 ≤ ndF f ∧ 1 ≤ (ctF f lv).2 ∧ (ctF f lv).2 ≤ lv + 1
 | ⟨k, ar, nm, vars, args, kids⟩, lv => by
  rw [ctF, ndF]
  split
  ·simp only; omega
  ·have := ctFs_bd kids (lv - 1) 1 0 (by omega) (by omega) (by omega)
   simp only; omega
theorem ctFs_bd : ∀ (l : List GFml) (lv : Nat) (n d : Int), 1 ≤ n → 0 ≤ d → d ≤ lv + 1 → 1 ≤ (ctFs l lv n d).1 ∧ (ctFs l lv n d).1 ≤ n + ndFs l ∧ 0 ≤ (ctFs l lv n d).2 ∧ (ctFs l lv n d).2 ≤ lv + 1
 | [], lv, n, d, h0, h1, h2 => by simp only [ctFs, ndFs]; omega
 | x :: l, lv, n, d, h0, h1, h2 => by
  have e := ctF_bd x lv
  have := ctFs_bd l lv (n + (ctF x lv).1) (max d (ctF x lv).2) (by omega) (by omega) (by omega)
  simp only [ctFs, ndFs]; omega
end
theorem ref_Count : ∀ (lv : Nat) (f : GFml) (hlv : lv ≤ 1000) (ho : f.Ok) (hn : ndF f ≤ 1000000),
  Tri Tryz.prog 28 [f.st, .int .i64 lv] [] (D (.tup [.int .i64 (ctF f lv).1, .int .i64 (ctF f lv).2]) []) := by
 intro lv
 induction lv with
 | zero =>
  intro f hlv ho hn
  obtain ⟨k, ar, nm, vars, args, kids⟩ := f
  have e : ctF ⟨k, ar, nm, vars, args, kids⟩ 0 = (1, 1) := by rw [ctF]; rfl
  rw [e]
  refine Tri.enter 42 Tryz.func28 rfl rfl rfl rfl fun Fr w0 => ?_
  repeat' (first | (refine AW.r 0 ?_; (refine AL.d (AOp.box_ro (v := .st [.int .i64 k, .int .i64 ar, .str nm, strs vars, strs args, .sl (kids.map GFml.av)]) rfl rfl) ?_) <;> refine AL.es 2 ?_ <;> refine AL.nil ?_) | refine AW.re 1 2 ?_ | refine AW.re 2 1 ?_ | refine AW.go ?_ | fail)
  refine AW.prune [1, 2, 6, 7, 8] (AW.loop (fun mz af h => af = [(1, .int .i64 (0 : Nat)), (2, .at (.st [.int .i64 k, .int .i64 ar, .str nm, strs vars, strs args, .sl (kids.map GFml.av)])), (6, .int .i64 1), (7, .int .i64 0), (8, .int .i64 0)] ∧ h = []) 0 ⟨rfl, rfl⟩ ?_)
  rintro mz af h ⟨rfl, rfl⟩
  refine AW.seq ?_
  repeat' (first | (refine xS 3 6 ?_; ((refine AL.gx (fun hb => ?_) (fun hb => ?_) <;> refine AL.es 3 ?_)) <;> refine AL.nil ?_) | (refine xS 7 2 ?_; refine AL.d (AOp.add rfl rfl (by omega)) ?_; refine xN 2 ?_) | refine AW.jf ?_ | fail)
  all_goals try (exfalso; simp only [dT, dF, lM] at *; omega)
  all_goals exact AW.retv rfl ⟨rfl, rfl⟩
 | succ lv ih =>
  intro f hlv ho hn
  obtain ⟨k, ar, nm, vars, args, kids⟩ := f
  obtain ⟨_, q6, q7⟩ := ho
  have e : ctF ⟨k, ar, nm, vars, args, kids⟩ (lv + 1) = ((ctFs kids lv 1 0).1, (ctFs kids lv 1 0).2 + 1) := by rw [ctF]; rfl
  have hb := ctFs_bd kids lv 1 0 (by omega) (by omega) (by omega)
  rw [ndF] at hn
  rw [e]
  simp only at q6 q7
  refine Tri.enter 42 Tryz.func28 rfl rfl rfl rfl fun Fr w0 => ?_
  repeat' (first | (refine AW.r 0 ?_; (refine AL.d (AOp.box_ro (v := .st [.int .i64 k, .int .i64 ar, .str nm, strs vars, strs args, .sl (kids.map GFml.av)]) rfl rfl) ?_) <;> refine AL.es 2 ?_ <;> refine AL.nil ?_) | refine AW.re 1 2 ?_ | refine AW.re 2 1 ?_ | refine AW.go ?_ | fail)
  refine AW.prune [1, 2, 6, 7, 8] (AW.loop (fun mz af h => ∃ (i : Nat) (n : Int) (dd : Int), i ≤ kids.length ∧ mz = kids.length - i ∧ af = [(1, .int .i64 ((lv + 1 : Nat) : Int)), (2, .at (.st [.int .i64 k, .int .i64 ar, .str nm, strs vars, strs args, .sl (kids.map GFml.av)])), (6, .int .i64 n), (7, .int .i64 dd), (8, .int .i64 i)] ∧ h = [] ∧ (ctFs kids lv 1 0 = ctFs (kids.drop i) lv n dd ∧ 1 ≤ n ∧ 0 ≤ dd ∧ dd ≤ lv + 1 ∧ n + ndFs (kids.drop i) ≤ 1000000)) kids.length ⟨0, 1, 0, Nat.zero_le _, rfl, rfl, rfl, ⟨rfl, by omega, by omega, by omega, by simp only [List.drop_zero]; omega⟩⟩ ?_)
  rintro mz af h ⟨i, n, dd, hi, rfl, rfl, rfl, he⟩
  refine AW.seq ?_
  by_cases hlt : i < kids.length
  ·obtain ⟨he, g1, g2, g3, g4⟩ := he
   obtain ⟨x, hx⟩ := get_lt hlt
   have hx' : (kids.map GFml.av)[((i : Nat) : Int).toNat]? = some (x.st) := GFml.get hx
   have hxm := lG hx
   have hnx := ndFs_mem hxm
   have hc := ih x (by omega) (q7 x hxm) (by omega)
   have hb2 := ctF_bd x lv
   rw [drop_cons hx] at he g4
   simp only [ctFs, ndFs] at he g4
   generalize ctF x lv = r at *
   repeat' (first | (refine xS 3 6 ?_; ((refine AL.gx (fun hb => ?_) (fun hb => ?_) <;> refine AL.es 3 ?_)) <;> refine AL.nil ?_) | (refine xS 5 3 ?_; refine AL.d (iX hx') ?_; refine AL.es 2 ?_; refine AL.d (AOp.sub rfl rfl (by omega)) ?_; refine AL.d (AOp.call rfl rfl (by simpa using hc)) ?_; refine xN 5 ?_) | (refine xS 6 2 ?_; refine AL.d (AOp.add rfl rfl (by omega)) ?_; refine AL.es 2 ?_; refine AL.d (AOp.max2 rfl rfl) ?_; refine xN 2 ?_) | (refine xS 4 1 ?_; refine AL.d (AOp.add rfl rfl (by omega)) ?_; refine xN 1 ?_) | refine AW.jf ?_ | refine AW.jj (fun hb => ?_) (fun hb => ?_) | refine AW.go ?_ | fail)
   all_goals try (exfalso; simp only [dT, dF, lM] at *; omega)
   refine AW.again_keep (kids.length - (i + 1)) [1, 2, 6, 7, 8] (by omega) ⟨i + 1, n + r.1, max dd r.2, hlt, rfl, rfl, rfl, ?_⟩
   exact ⟨he, by omega, by omega, by omega, by omega⟩
  ·obtain ⟨he, g1, g2, g3, g4⟩ := he
   rw [List.drop_eq_nil_of_le (by omega), ctFs] at he
   rw [he]
   repeat' (first | (refine xS 3 6 ?_; ((refine AL.gx (fun hb => ?_) (fun hb => ?_) <;> refine AL.es 3 ?_)) <;> refine AL.nil ?_) | (refine xS 7 2 ?_; refine AL.d (AOp.add rfl rfl (by omega)) ?_; refine xN 2 ?_) | refine AW.jf ?_ | refine AW.jj (fun hb => ?_) (fun hb => ?_) | refine AW.go ?_ | fail)
   all_goals try (exfalso; simp only [dT, dF, lM] at *; omega)
   all_goals exact AW.retv rfl ⟨rfl, rfl⟩
mutual
def shsF : GFml → Bool
 | ⟨k, ar, nm, vars, args, kids⟩ => shsFs kids && shapedP ⟨k, ar, nm, vars, args, kids⟩
def shsFs : List GFml → Bool
 | [] => true
 | x :: l => shsF x && shsFs l
end
theorem shsF_eq (f : GFml) : shsF f = (shsFs f.Kids && shapedP f) := by cases f; rw [shsF]
theorem ref_shapes : ∀ (N : Nat) (f : GFml) (hN : ndF f ≤ N) (ho : f.Ok) (hn : ndF f ≤ 1000000),
  Tri Tryz.prog 45 [f.st] [] (D (.bool (shsF f)) []) := by
 intro N
 induction N using Nat.strongRecOn with
 | _ N ih =>
  intro f hN ho hn
  have hs := ref_shape f ho
  have hk := ndFs_len f.Kids
  have hnd := ndF_eq f
  rw [shape_eq f (by omega)] at hs
  rw [shsF_eq]
  obtain ⟨_, q6, q7⟩ := ho
  generalize shapedP f = S at *
  obtain ⟨k, ar, nm, vars, args, kids⟩ := f
  simp only at *
  refine Tri.enter 20 Tryz.func45 rfl rfl rfl rfl fun Fr w0 => ?_
  repeat' (first | (refine AW.r 0 ?_; (refine AL.d (AOp.box_ro (v := .st [.int .i64 k, .int .i64 ar, .str nm, strs vars, strs args, .sl (kids.map GFml.av)]) rfl rfl) ?_) <;> refine AL.es 1 ?_ <;> refine AL.nil ?_) | refine AW.re 1 1 ?_ | refine AW.go ?_ | fail)
  refine AW.prune [1, 3] (AW.loop (fun mz af h => ∃ (i : Nat), i ≤ kids.length ∧ mz = kids.length - i ∧ af = [(1, .at (.st [.int .i64 k, .int .i64 ar, .str nm, strs vars, strs args, .sl (kids.map GFml.av)])), (3, .int .i64 i)] ∧ h = [] ∧ shsFs kids = shsFs (kids.drop i)) kids.length ⟨0, Nat.zero_le _, rfl, rfl, rfl, rfl⟩ ?_)
  rintro mz af h ⟨i, hi, rfl, rfl, rfl, he⟩
  refine AW.seq ?_
  by_cases hlt : i < kids.length
  ·obtain ⟨x, hx⟩ := get_lt hlt
   have hx' : (kids.map GFml.av)[((i : Nat) : Int).toNat]? = some (x.st) := GFml.get hx
   have hxm := lG hx
   have hnx := ndFs_mem hxm
   have hc := ih (ndF x) (by omega) x (Nat.le_refl _) (q7 x hxm) (by omega)
   rw [drop_cons hx, shsFs] at he
   repeat' (first | refine AW.re 2 5 ?_ | (refine xS 4 3 ?_; refine AL.d (iX hx') ?_; refine AL.es 1 ?_; refine AL.d (AOp.call rfl rfl hc) ?_; refine xN 1 ?_) | refine AW.re 5 1 ?_ | (refine xS 3 1 ?_; refine AL.d AOp.ad ?_; refine xN 1 ?_) | refine AW.jj (fun hb => ?_) (fun hb => ?_) | refine AW.go ?_ | fail)
   all_goals try (exfalso; simp only [dT, dF, lM] at *; omega)
   ·have h : shsF x = false := by simpa using hb
    exact AW.retv rfl ⟨retB (by rw [he, h]; rfl), rfl⟩
   ·have h : shsF x = true := by simpa using hb
    refine AW.again_keep (kids.length - (i + 1)) [1, 3] (by omega) ⟨i + 1, hlt, rfl, rfl, rfl, ?_⟩
    rw [he, h]; rfl
  ·rw [List.drop_eq_nil_of_le (by omega), shsFs] at he
   rw [he]
   repeat' (first | refine AW.re 2 5 ?_ | (refine xS 6 1 ?_; refine AL.d (AOp.call rfl rfl hs) ?_; refine xN 1 ?_) | refine AW.jj (fun hb => ?_) (fun hb => ?_) | refine AW.go ?_ | fail)
   all_goals try (exfalso; simp only [dT, dF, lM] at *; omega)
   exact AW.retv rfl ⟨by simp, rfl⟩
def bindsB (f : GFml) : Bool := f.Kind == 8 || f.Kind == 9 || f.Kind == 11
def bindsN (f : GFml) : Int := if f.Kind = 8 ∨ f.Kind = 9 then f.Vars.length else if f.Kind = 11 then f.Arity else 0
theorem ref_Binds (f : GFml) : Tri Tryz.prog 91 [f.st] [] (D (.tup [.bool (bindsB f), .int .i64 (bindsN f)]) []) := by
 obtain ⟨k, ar, nm, vars, args, kids⟩ := f
 refine Tri.enter 16 Tryz.func91 rfl rfl rfl rfl fun Fr w0 => ?_
 repeat' (first | (refine AW.r 0 ?_; (refine AL.d (AOp.box_ro (v := .st [.int .i64 k, .int .i64 ar, .str nm, strs vars, strs args, .sl (kids.map GFml.av)]) rfl rfl) ?_) <;> refine AL.es 2 ?_ <;> refine AL.nil ?_) | refine AW.re 1 2 ?_ | refine AW.re 2 2 ?_ | refine AW.re 3 2 ?_ | (refine AW.dq 4 ?_; refine AQ.es 5 ?_; refine AQ.nil ?_) | refine AW.re 5 2 ?_ | (refine AW.dq 6 ?_; refine AQ.es 4 ?_; refine AQ.nil ?_) | refine AW.re 7 2 ?_ | refine AW.jj (fun hb => ?_) (fun hb => ?_) | fail)
 all_goals refine AW.retv rfl ⟨?_, rfl⟩
 all_goals (simp only [bindsB, bindsN]; simp_all [ofConst])
mutual
def posF (s : ByteArray) : GFml → Bool → Bool → Bool
 | ⟨k, ar, nm, vars, args, kids⟩, odd, part =>
  bif k == 0 then !decide (nm = s) || (!odd && !part)
  else bif bindsB ⟨k, ar, nm, vars, args, kids⟩ && decide (nm = s) then true
  else posFs s kids (bif k == 3 then !odd else odd) (part || k == 9)
def posFs (s : ByteArray) : List GFml → Bool → Bool → Bool
 | [], _, _ => true
 | x :: l, odd, part => posF s x odd part && posFs s l odd part
end
theorem ref_positive (s : ByteArray) : ∀ (N : Nat) (f : GFml) (odd part : Bool) (hN : ndF f ≤ N) (ho : f.Ok),
  Tri Tryz.prog 141 [f.st, .str s, .bool odd, .bool part] [] (D (.bool (posF s f odd part)) []) := by
 intro N
 induction N using Nat.strongRecOn with
 | _ N ih =>
  intro f odd part hN ho
  have hnd := ndF_eq f
  have hB := ref_Binds f
  obtain ⟨_, q6, q7⟩ := ho
  obtain ⟨k, ar, nm, vars, args, kids⟩ := f
  rw [posF]
  generalize bindsB ⟨k, ar, nm, vars, args, kids⟩ = B at *
  generalize bindsN ⟨k, ar, nm, vars, args, kids⟩ = n at *
  simp only at *
  refine Tri.enter 66 Tryz.func141 rfl rfl rfl rfl fun Fr w0 => ?_
  repeat' (first | (refine AW.r 0 ?_; (refine AL.d (AOp.box_ro (v := .st [.int .i64 k, .int .i64 ar, .str nm, strs vars, strs args, .sl (kids.map GFml.av)]) rfl rfl) ?_) <;> refine AL.es 1 ?_ <;> refine AL.nil ?_) | refine AW.go ?_ | fail)
  by_cases k0 : (k == 0) = true
  ·rw [k0, cond_true]
   repeat' (first | refine AW.re 1 3 ?_ | (refine xS 2 5 ?_; ((refine AL.gx (fun hb => ?_) (fun hb => ?_) <;> refine AL.es 3 ?_)) <;> (first | refine AL.es 5 ?_ | (refine AL.gx (fun hb => ?_) (fun hb => ?_) <;> refine AL.es 5 ?_)) <;> refine AL.nil ?_) | refine AW.jj (fun hb => ?_) (fun hb => ?_) | refine AW.go ?_ | fail)
   all_goals try (exfalso; simp_all only [reduceCtorEq]; done)
   all_goals refine AW.retv rfl ⟨?_, rfl⟩
   all_goals first | refine retB ?_ | refine congrArg (fun b => AEnd.ret (AV.bool b)) ?_
   all_goals (simp only [toList_beq] at *; simp_all)
  have k0' : (k == 0) = false := by simpa using k0
  rw [k0', cond_false]
  repeat' (first | refine AW.re 1 3 ?_ | (refine xS 3 1 ?_; refine AL.d (AOp.call rfl rfl hB) ?_; refine xN 5 ?_) | refine AW.jj (fun hb => ?_) (fun hb => ?_) | refine AW.go ?_ | fail)
  ·exfalso; simp_all only [reduceCtorEq]
  refine AW.cut (fun af ah => ∃ v : Bool, af = [(1, .str s), (2, .bool odd), (3, .bool part), (4, .at (.st [.int .i64 k, .int .i64 ar, .str nm, strs vars, strs args, .sl (kids.map GFml.av)])), (38, .bool v)] ∧ ah = [] ∧ v = (B && decide (nm = s))) ?_ ?_
  ·repeat' (first | (refine xS 4 2 ?_; ((refine AL.gx (fun hb => ?_) (fun hb => ?_) <;> refine AL.es 5 ?_)) <;> refine AL.nil ?_) | fail)
   all_goals refine AW.meet [1, 2, 3, 4, 38] ⟨_, rfl, rfl, ?_⟩
   all_goals (try simp only [toList_beq] at *)
   all_goals simp [*]
  rintro af ah ⟨v, rfl, rfl, hv⟩
  rw [← hv]
  clear hv hb
  cases v with
  | true =>
   repeat' (first | refine AW.re 5 1 ?_ | refine AW.jt ?_ | fail)
   exact AW.retv rfl ⟨rfl, rfl⟩
  | false =>
  rw [cond_false]
  refine AW.jf ?_
  refine AW.skip (AW.seq ?_)
  refine AW.cut (fun af ah => af = [(1, .str s), (2, .bool (bif k == 3 then !odd else odd)), (3, .bool part), (4, .at (.st [.int .i64 k, .int .i64 ar, .str nm, strs vars, strs args, .sl (kids.map GFml.av)]))] ∧ ah = []) ?_ ?_
  ·repeat' (first | refine AW.re 6 3 ?_ | refine AW.re 7 3 ?_ | refine AW.jj (fun hb => ?_) (fun hb => ?_) | refine AW.go ?_ | fail)
   ·exact AW.meet [1, 2, 3, 4] ⟨by rw [hb]; rfl, rfl⟩
   ·exact AW.meet [1, 2, 3, 4] ⟨by rw [hb]; rfl, rfl⟩
  rintro af ah ⟨rfl, rfl⟩
  generalize (bif k == 3 then !odd else odd) = o2
  repeat' (first | refine AW.re 8 1 ?_ | refine AW.go ?_ | fail)
  refine AW.prune [1, 2, 3, 4, 11] (AW.loop (fun mz af h => ∃ (i : Nat), i ≤ kids.length ∧ mz = kids.length - i ∧ af = [(1, .str s), (2, .bool o2), (3, .bool part), (4, .at (.st [.int .i64 k, .int .i64 ar, .str nm, strs vars, strs args, .sl (kids.map GFml.av)])), (11, .int .i64 i)] ∧ h = [] ∧ posFs s kids o2 (part || k == 9) = posFs s (kids.drop i) o2 (part || k == 9)) kids.length ⟨0, Nat.zero_le _, rfl, rfl, rfl, rfl⟩ ?_)
  rintro mz af h ⟨i, hi, rfl, rfl, rfl, he⟩
  refine AW.seq ?_
  by_cases hlt : i < kids.length
  ·obtain ⟨x, hx⟩ := get_lt hlt
   have hx' : (kids.map GFml.av)[((i : Nat) : Int).toNat]? = some (x.st) := GFml.get hx
   have hxm := lG hx
   have hnx := ndFs_mem hxm
   have hc := ih (ndF x) (by omega) x o2 (part || k == 9) (Nat.le_refl _) (q7 x hxm)
   rw [drop_cons hx, posFs] at he
   cases part with
   | true =>
    rw [Bool.true_or] at he hc ⊢
    repeat' (first | refine AW.re 9 5 ?_ | (refine AW.dq 11 ?_; refine AQ.es 3 ?_; refine AQ.p rfl (iX hx') ?_; refine AQ.es 5 ?_; refine AQ.es 4 ?_; refine AQ.p rfl (AOp.call rfl rfl hc) ?_; refine AQ.es 1 ?_; refine AQ.nil ?_) | refine AW.re 12 1 ?_ | (refine xS 10 1 ?_; refine AL.d AOp.ad ?_; refine xN 1 ?_) | refine AW.jj (fun hb => ?_) (fun hb => ?_) | refine AW.go ?_ | fail)
    all_goals try (exfalso; simp only [dT, dF, lM] at *; omega)
    ·have h : posF s x o2 true = false := by simpa using hb
     exact AW.retv rfl ⟨retB (by rw [he, h]; rfl), rfl⟩
    ·have h : posF s x o2 true = true := by simpa using hb
     refine AW.again_keep (kids.length - (i + 1)) [1, 2, 3, 4, 11] (by omega) ⟨i + 1, hlt, rfl, rfl, rfl, ?_⟩
     rw [he, h]; rfl
   | false =>
    rw [Bool.false_or] at he hc ⊢
    repeat' (first | refine AW.re 9 5 ?_ | (refine AW.dq 11 ?_; refine AQ.es 3 ?_; refine AQ.p rfl (iX hx') ?_; refine AQ.es 5 ?_; refine AQ.es 4 ?_; refine AQ.p rfl (AOp.call rfl rfl hc) ?_; refine AQ.es 1 ?_; refine AQ.nil ?_) | refine AW.re 12 1 ?_ | (refine xS 10 1 ?_; refine AL.d AOp.ad ?_; refine xN 1 ?_) | refine AW.jj (fun hb => ?_) (fun hb => ?_) | refine AW.go ?_ | fail)
    all_goals try (exfalso; simp only [dT, dF, lM] at *; omega)
    ·have h : posF s x o2 (k == 9) = false := by simpa using hb
     exact AW.retv rfl ⟨retB (by rw [he, h]; rfl), rfl⟩
    ·have h : posF s x o2 (k == 9) = true := by simpa using hb
     refine AW.again_keep (kids.length - (i + 1)) [1, 2, 3, 4, 11] (by omega) ⟨i + 1, hlt, rfl, rfl, rfl, ?_⟩
     rw [he, h]; rfl
  ·rw [List.drop_eq_nil_of_le (by omega), posFs] at he
   rw [he]
   repeat' (first | refine AW.re 9 5 ?_ | refine AW.re 13 1 ?_ | refine AW.jj (fun hb => ?_) (fun hb => ?_) | refine AW.go ?_ | fail)
   all_goals try (exfalso; simp only [dT, dF, lM] at *; omega)
   exact AW.retv rfl ⟨rfl, rfl⟩
theorem ref_Positive (s : ByteArray) (f : GFml) (ho : f.Ok) :
  Tri Tryz.prog 92 [f.st, .str s] [] (D (.bool (posF s f false false)) []) := by
 have hc := ref_positive s _ f false false (Nat.le_refl _) ho
 obtain ⟨k, ar, nm, vars, args, kids⟩ := f
 refine Tri.enter 8 Tryz.func92 rfl rfl rfl rfl fun Fr w0 => ?_
 repeat' (first | (refine AW.r 0 ?_; (refine AL.d (AOp.box_ro (v := .st [.int .i64 k, .int .i64 ar, .str nm, strs vars, strs args, .sl (kids.map GFml.av)]) rfl rfl) ?_) <;> refine AL.es 1 ?_ <;> refine AL.nil ?_) | (refine xS 1 2 ?_; refine AL.d (AOp.call rfl rfl hc) ?_; refine xN 1 ?_) | fail)
 exact AW.retv rfl ⟨rfl, rfl⟩
def posH (s : ByteArray) : List GFml → Bool
 | [] => false
 | x :: _ => posF s x false false
mutual
def grF : GFml → Bool
 | ⟨k, ar, nm, vars, args, kids⟩ => !(k == 8 && !posH nm kids) && grFs kids
def grFs : List GFml → Bool
 | [] => true
 | x :: l => grF x && grFs l
end
inductive LfpOk : GFml → Prop
 | mk {f : GFml} (h : f.Kind = 8 → 0 < f.Kids.length) (hk : ∀ x ∈ f.Kids, LfpOk x) : LfpOk f
theorem ref_grow : ∀ (N : Nat) (f : GFml) (hN : ndF f ≤ N) (ho : f.Ok) (hL : LfpOk f),
  Tri Tryz.prog 47 [f.st] [] (D (.bool (grF f)) []) := by
 intro N
 induction N using Nat.strongRecOn with
 | _ N ih =>
  intro f hN ho hL
  have hnd := ndF_eq f
  obtain ⟨_, q6, q7⟩ := ho
  obtain ⟨hl, hL'⟩ := hL
  obtain ⟨k, ar, nm, vars, args, kids⟩ := f
  rw [grF]
  simp only at *
  have hkk : (k == 8) = true → ∃ y : GFml, (kids.map GFml.av)[((0 : Int)).toNat]? = some y.st ∧ Tri Tryz.prog 92 [y.st, .str nm] [] (D (.bool (posH nm kids)) []) := fun h => by
   have h8 := hl (by simpa using h)
   cases kids with
   | nil => simp at h8
   | cons y l => exact ⟨y, by simp [GFml.av_eq], ref_Positive nm y (q7 y (by simp))⟩
  refine Tri.enter 31 Tryz.func47 rfl rfl rfl rfl fun Fr w0 => ?_
  repeat' (first | (refine AW.r 0 ?_; (refine AL.d (AOp.box_ro (v := .st [.int .i64 k, .int .i64 ar, .str nm, strs vars, strs args, .sl (kids.map GFml.av)]) rfl rfl) ?_) <;> refine AL.es 1 ?_ <;> refine AL.nil ?_) | refine AW.go ?_ | fail)
  refine AW.cut (fun af ah => ∃ v : Bool, af = [(1, .at (.st [.int .i64 k, .int .i64 ar, .str nm, strs vars, strs args, .sl (kids.map GFml.av)])), (16, .bool v)] ∧ ah = [] ∧ v = (k == 8 && !posH nm kids)) ?_ ?_
  ·cases k8 : (k == 8) with
   | true =>
    obtain ⟨y, hy1, hy2⟩ := hkk k8
    repeat' (first | (refine AW.dq 1 ?_; refine AQ.es 4 ?_; ((refine AQ.x (fun hb => ?_) (fun hb => ?_) <;> refine AQ.es 2 ?_)) <;> (first | refine AQ.gp rfl (iX hy1) ?_ | refine AQ.k ?_) <;> refine AQ.es 3 ?_ <;> (first | refine AQ.gp rfl (AOp.call rfl rfl hy2) ?_ | refine AQ.k ?_) <;> refine AQ.es 2 ?_ <;> refine AQ.nil ?_) | fail)
    all_goals try (exfalso; simp_all only [reduceCtorEq]; done)
    exact AW.meet [1, 16] ⟨_, rfl, rfl, rfl⟩
   | false =>
    repeat' (first | (refine AW.dq 1 ?_; refine AQ.es 4 ?_; ((refine AQ.x (fun hb => ?_) (fun hb => ?_) <;> refine AQ.es 2 ?_)) <;> (first | (exfalso; simp only [dT, dF, lM, bne_iff_ne, ne_eq, bne_eq_false_iff_eq, beq_iff_eq, beq_eq_false_iff_ne] at *; omega) | refine AQ.k ?_) <;> refine AQ.es 3 ?_ <;> (refine AQ.k ?_) <;> refine AQ.es 2 ?_ <;> refine AQ.nil ?_) | fail)
    all_goals try (exfalso; simp_all only [reduceCtorEq]; done)
    exact AW.meet [1, 16] ⟨_, rfl, rfl, rfl⟩
  rintro af ah ⟨v, rfl, rfl, hv⟩
  rw [← hv]
  clear hv hkk
  cases v with
  | true =>
   repeat' (first | refine AW.re 2 1 ?_ | refine AW.jt ?_ | fail)
   exact AW.retv rfl ⟨rfl, rfl⟩
  | false =>
  rw [Bool.not_false, Bool.true_and]
  repeat' (first | refine AW.re 3 1 ?_ | refine AW.jf ?_ | refine AW.go ?_ | fail)
  refine AW.prune [1, 3] (AW.loop (fun mz af h => ∃ (i : Nat), i ≤ kids.length ∧ mz = kids.length - i ∧ af = [(1, .at (.st [.int .i64 k, .int .i64 ar, .str nm, strs vars, strs args, .sl (kids.map GFml.av)])), (3, .int .i64 i)] ∧ h = [] ∧ grFs kids = grFs (kids.drop i)) kids.length ⟨0, Nat.zero_le _, rfl, rfl, rfl, rfl⟩ ?_)
  rintro mz af h ⟨i, hi, rfl, rfl, rfl, he⟩
  refine AW.seq ?_
  by_cases hlt : i < kids.length
  ·obtain ⟨x, hx⟩ := get_lt hlt
   have hx' : (kids.map GFml.av)[((i : Nat) : Int).toNat]? = some (x.st) := GFml.get hx
   have hxm := lG hx
   have hnx := ndFs_mem hxm
   have hc := ih (ndF x) (by omega) x (Nat.le_refl _) (q7 x hxm) (hL' x hxm)
   rw [drop_cons hx, grFs] at he
   repeat' (first | refine AW.re 4 5 ?_ | (refine xS 6 3 ?_; refine AL.d (iX hx') ?_; refine AL.es 1 ?_; refine AL.d (AOp.call rfl rfl hc) ?_; refine xN 1 ?_) | refine AW.re 7 1 ?_ | (refine xS 5 1 ?_; refine AL.d AOp.ad ?_; refine xN 1 ?_) | refine AW.jj (fun hb => ?_) (fun hb => ?_) | refine AW.go ?_ | fail)
   all_goals try (exfalso; simp only [dT, dF, lM] at *; omega)
   ·have h : grF x = false := by simpa using hb
    exact AW.retv rfl ⟨retB (by rw [he, h]; rfl), rfl⟩
   ·have h : grF x = true := by simpa using hb
    refine AW.again_keep (kids.length - (i + 1)) [1, 3] (by omega) ⟨i + 1, hlt, rfl, rfl, rfl, ?_⟩
    rw [he, h]; rfl
  ·rw [List.drop_eq_nil_of_le (by omega), grFs] at he
   rw [he]
   repeat' (first | refine AW.re 4 5 ?_ | refine AW.re 8 1 ?_ | refine AW.jj (fun hb => ?_) (fun hb => ?_) | refine AW.go ?_ | fail)
   all_goals try (exfalso; simp only [dT, dF, lM] at *; omega)
   exact AW.retv rfl ⟨rfl, rfl⟩
def arAt (s : ByteArray) (b : List GSym) : Nat → Option Int
 | 0 => none
 | k + 1 => match b[k]? with
  | some y => if y.Name = s then some y.Arity else arAt s b k
  | none => arAt s b k
def arR (o : Option Int) (n : Int) : Bool := match o with | some m => m == n | none => true
mutual
def arF : GFml → List GSym → Bool
 | ⟨k, ar, nm, vars, args, kids⟩, b => bif k == 0 then arR (arAt nm b b.length) args.length
  else arFs kids (bif bindsB ⟨k, ar, nm, vars, args, kids⟩ then b ++ [⟨nm, bindsN ⟨k, ar, nm, vars, args, kids⟩⟩] else b)
def arFs : List GFml → List GSym → Bool
 | [], _ => true
 | x :: l, b => arF x b && arFs l b
end
theorem ref_arities : ∀ (N : Nat) (f : GFml) (b : List GSym) (hN : ndF f ≤ N) (ho : f.Ok) (hb : b.length + ndF f ≤ 1000000),
  Tri Tryz.prog 46 [f.st, .sl (b.map GSym.av)] [] (D (.bool (arF f b)) []) := by
 intro N
 induction N using Nat.strongRecOn with
 | _ N ih =>
  intro f b hN ho hbl
  have hnd := ndF_eq f
  have hB := ref_Binds f
  obtain ⟨_, q6, q7⟩ := ho
  obtain ⟨k, ar, nm, vars, args, kids⟩ := f
  rw [arF]
  generalize bindsB ⟨k, ar, nm, vars, args, kids⟩ = B at *
  generalize bindsN ⟨k, ar, nm, vars, args, kids⟩ = n at *
  simp only at *
  refine Tri.enter 66 Tryz.func46 rfl rfl rfl rfl fun Fr w0 => ?_
  repeat' (first | (refine AW.r 0 ?_; (refine AL.d (AOp.box_ro (v := .st [.int .i64 k, .int .i64 ar, .str nm, strs vars, strs args, .sl (kids.map GFml.av)]) rfl rfl) ?_) <;> refine AL.es 1 ?_ <;> refine AL.nil ?_) | refine AW.go ?_ | fail)
  cases k0 : (k == 0) with
  | true =>
   rw [cond_true]
   repeat' (first | refine AW.re 1 3 ?_ | (refine xS 2 2 ?_; ((refine AL.d (AOp.sub rfl rfl (by simp only [lM]; omega)) ?_)) <;> refine AL.es 1 ?_ <;> refine AL.nil ?_) | refine AW.jj (fun hb => ?_) (fun hb => ?_) | refine AW.go ?_ | fail)
   all_goals try (exfalso; simp_all only [reduceCtorEq]; done)
   refine AW.prune [1, 2, 5] (AW.loop (fun mz af h => ∃ i : Nat, i ≤ b.length ∧ mz = i ∧ af = [(1, .sl (b.map GSym.av)), (2, .at (.st [.int .i64 k, .int .i64 ar, .str nm, strs vars, strs args, .sl (kids.map GFml.av)])), (5, .int .i64 ((i : Int) - 1))] ∧ h = [] ∧ arAt nm b b.length = arAt nm b i) b.length ⟨b.length, Nat.le_refl _, rfl, by simp only [lM]; rfl, rfl, rfl⟩ ?_)
   rintro mz af h ⟨i, hi, rfl, rfl, rfl, he⟩
   refine AW.seq ?_
   cases mz with
   | zero =>
    rw [he]
    repeat' (first | refine AW.re 3 2 ?_ | refine AW.re 7 1 ?_ | refine AW.jf ?_ | fail)
    all_goals try (exfalso; simp only [dT, dF, lM] at *; omega)
    exact AW.retv rfl ⟨rfl, rfl⟩
   | succ j =>
    obtain ⟨x, hx⟩ := get_lt (show j < b.length by omega)
    have hx' : (b.map GSym.av)[(((j + 1 : Nat) : Int) - 1).toNat]? = some x.av := by rw [show (((j + 1 : Nat) : Int) - 1).toNat = j by omega]; exact map_get hx
    have hx2 : (b.map GSym.av)[(((j + 1 : Nat) : Int) - 1).toNat]? = some (.st [.str x.Name, .int .i64 x.Arity]) := hx'
    rw [arAt, hx] at he
    simp only at he
    repeat' (first | refine AW.re 3 2 ?_ | (refine AW.dq 5 ?_; refine AQ.es 2 ?_; refine AQ.p rfl (iX hx2) ?_; refine AQ.es 5 ?_; refine AQ.nil ?_) | (refine AW.dq 6 ?_; refine AQ.es 2 ?_; refine AQ.p rfl (iX hx2) ?_; refine AQ.es 7 ?_; refine AQ.nil ?_) | (refine xS 4 1 ?_; refine AL.d (AOp.sub rfl rfl (by omega)) ?_; refine xN 1 ?_) | refine AW.jj (fun hb => ?_) (fun hb => ?_) | refine AW.go ?_ | fail)
    all_goals try (exfalso; simp only [dT, dF, lM] at *; omega)
    all_goals rw [toList_beq] at hb
    ·have h : x.Name = nm := by simpa using hb
     rw [if_pos h] at he
     exact AW.retv rfl ⟨by rw [he]; simp only [arR, lM], rfl⟩
    ·have h : ¬ x.Name = nm := by simpa using hb
     rw [if_neg h] at he
     exact AW.again_keep j [1, 2, 5] (by omega) ⟨j, by omega, rfl, by simp only [show (((j + 1 : Nat) : Int) - 1) = (j : Int) by omega]; rfl, rfl, he⟩
  | false =>
   rw [cond_false]
   repeat' (first | refine AW.re 1 3 ?_ | (refine xS 8 1 ?_; refine AL.d (AOp.call rfl rfl hB) ?_; refine xN 5 ?_) | refine AW.jj (fun hb => ?_) (fun hb => ?_) | fail)
   ·exfalso; simp_all only [reduceCtorEq]
   have hlen : (bif B then b ++ [⟨nm, n⟩] else b).length ≤ b.length + 1 := by cases B <;> simp
   refine AW.cut (fun af ah => af = [(1, .sl ((bif B then b ++ [⟨nm, n⟩] else b).map GSym.av)), (2, .at (.st [.int .i64 k, .int .i64 ar, .str nm, strs vars, strs args, .sl (kids.map GFml.av)]))] ∧ ah = []) ?_ ?_
   ·cases B with
    | false =>
     repeat' (first | refine AW.re 9 1 ?_ | refine AW.jf ?_ | refine AW.go ?_ | fail)
     exact AW.meet [1, 2] ⟨rfl, rfl⟩
    | true =>
     have hm : ((b ++ [⟨nm, n⟩] : List GSym).map GSym.av) = [] ++ b.map GSym.av ++ [.st [.str nm, .int .i64 n]] := by simp [GSym.av]
     rw [cond_true, hm]
     repeat' (first | refine AW.re 9 1 ?_ | (refine AW.ex 10 [] [0, 2, 8, 9] ?_; refine AQE.hl ?_; refine AQE.e ?_; refine AQE.hl ?_; refine AQE.p rfl AOp.fa ?_; refine AQE.p rfl AOp.la ?_; refine AQE.e ?_; (refine AQE.p rfl (AOp.build (pl := [(0, 1), (1, 1)]) (z := .st [.str ⟨#[]⟩, .int .i64 0]) (by kernel_rfl) rfl rfl rfl) ?_) <;> refine AQE.p rfl (AOp.lit (e := 64) (sz := 2) (by kernel_rfl) rfl rfl rfl (P_one rfl) (by decide)) ?_ <;> refine AQE.hl ?_ <;> refine AQE.hl ?_ <;> refine AQE.nil ?_ <;> refine AX.o (n := 3) 0 ?_ <;> (refine AXO.lit_own (e := 64) (sz := 2) (by kernel_rfl) rfl rfl rfl P_nil (by decide) fun b0 => ?_) <;> try dsimp only [sA, sB, sC, sD] <;> refine AX.o (n := 2) 2 ?_ <;> refine AXO.append (i := 0) (e := 64) (sz := 2) (bytes := 24) rfl rfl rfl rfl (by kernel_rfl) (by kernel_rfl) (by repeat' (exact P_nil)) (by repeat' (exact P_map fun _ => rfl)) (ok_all (by repeat' (exact P_map fun _ => rfl))) (by (try simp only [lA, lM, List.length_take, List.length_drop, List.length_cons, List.length_nil, List.length_replicate]); omega) (by (try simp only [lA, lM, List.length_take, List.length_drop, List.length_cons, List.length_nil, List.length_replicate]); omega) rfl fun b' c' => ?_ <;> try dsimp only [sA, sB, sC, sD] <;> refine AX.o (n := 1) 8 ?_ <;> refine AXO.append (i := 0) (e := 64) (sz := 2) (bytes := 24) rfl rfl rfl rfl (by kernel_rfl) (by kernel_rfl) (by repeat' (first | exact P_nil | refine P_app ?_ ?_ | exact P_map fun _ => rfl)) (by repeat' (exact P_one rfl)) (ok_all (by repeat' (exact P_one rfl))) (by (try simp only [lA, lM, List.length_take, List.length_drop, List.length_cons, List.length_nil, List.length_replicate]); omega) (by (try simp only [lA, lM, List.length_take, List.length_drop, List.length_cons, List.length_nil, List.length_replicate]); omega) rfl fun b' c' => ?_ <;> try dsimp only [sA, sB, sC, sD] <;> refine AX.o (n := 0) 9 ?_ <;> refine AXO.e ?_ <;> try dsimp only [sA, sB, sC, sD] <;> refine AX.done_keep [0, 1, 2, 4, 5, 6, 8, 9, 10, 11, 12, 13, 14, 15, 16, 17, 18, 19, 20, 21, 22, 23, 24, 25, 26, 27, 28, 29, 30, 31, 32, 33, 34, 35, 36, 37, 38, 39, 40, 41, 51, 52, 53, 54, 55, 56, 57, 58, 59, 60, 61, 62, 63, 64, 65] ?_) | refine AW.jt ?_ | fail)
     refine AW.as_sl 1 rfl ?_
     refine AW.drop (List.nil_sublist _) ?_
     exact AW.meet [1, 2] ⟨rfl, rfl⟩
   rintro af ah ⟨rfl, rfl⟩
   generalize (bif B then b ++ [⟨nm, n⟩] else b) = b2 at *
   repeat' (first | refine AW.re 11 1 ?_ | refine AW.go ?_ | fail)
   refine AW.prune [1, 2, 8] (AW.loop (fun mz af h => ∃ (i : Nat), i ≤ kids.length ∧ mz = kids.length - i ∧ af = [(1, .sl (b2.map GSym.av)), (2, .at (.st [.int .i64 k, .int .i64 ar, .str nm, strs vars, strs args, .sl (kids.map GFml.av)])), (8, .int .i64 i)] ∧ h = [] ∧ arFs kids b2 = arFs (kids.drop i) b2) kids.length ⟨0, Nat.zero_le _, rfl, rfl, rfl, rfl⟩ ?_)
   rintro mz af h ⟨i, hi, rfl, rfl, rfl, he⟩
   refine AW.seq ?_
   by_cases hlt : i < kids.length
   ·obtain ⟨x, hx⟩ := get_lt hlt
    have hx' : (kids.map GFml.av)[((i : Nat) : Int).toNat]? = some (x.st) := GFml.get hx
    have hxm := lG hx
    have hnx := ndFs_mem hxm
    have hc := ih (ndF x) (by omega) x b2 (Nat.le_refl _) (q7 x hxm) (by omega)
    rw [drop_cons hx, arFs] at he
    repeat' (first | refine AW.re 12 5 ?_ | (refine xS 14 3 ?_; refine AL.d (iX hx') ?_; refine AL.es 2 ?_; refine AL.d (AOp.call rfl rfl hc) ?_; refine xN 1 ?_) | refine AW.re 15 1 ?_ | (refine xS 13 1 ?_; refine AL.d AOp.ad ?_; refine xN 1 ?_) | refine AW.jj (fun hb => ?_) (fun hb => ?_) | refine AW.go ?_ | fail)
    all_goals try (exfalso; simp only [dT, dF, lM] at *; omega)
    ·have h : arF x b2 = false := by simpa using hb
     exact AW.retv rfl ⟨retB (by rw [he, h]; rfl), rfl⟩
    ·have h : arF x b2 = true := by simpa using hb
     refine AW.again_keep (kids.length - (i + 1)) [1, 2, 8] (by omega) ⟨i + 1, hlt, rfl, rfl, rfl, ?_⟩
     rw [he, h]; rfl
   ·rw [List.drop_eq_nil_of_le (by omega), arFs] at he
    rw [he]
    repeat' (first | refine AW.re 12 5 ?_ | refine AW.re 16 1 ?_ | refine AW.jj (fun hb => ?_) (fun hb => ?_) | refine AW.go ?_ | fail)
    all_goals try (exfalso; simp only [dT, dF, lM] at *; omega)
    exact AW.retv rfl ⟨rfl, rfl⟩
mutual
def ocF : GFml → List ByteArray → List GSym → List GSym
 | ⟨k, ar, nm, vars, args, kids⟩, bd, out => bif k == 0 && !(bd.any fun x => decide (x = nm)) then out ++ [⟨nm, args.length⟩]
  else ocFs kids (bif bindsB ⟨k, ar, nm, vars, args, kids⟩ then bd ++ [nm] else bd) out
def ocFs : List GFml → List ByteArray → List GSym → List GSym
 | [], _, out => out
 | x :: l, bd, out => ocFs l bd (ocF x bd out)
end
mutual
theorem ocF_len : ∀ (f : GFml) (bd : List ByteArray) (out : List GSym), (ocF f bd out).length ≤ out.length + ndF f
 | ⟨k, ar, nm, vars, args, kids⟩, bd, out => by
  rw [ocF, ndF]
  cases (k == 0 && !(bd.any fun x => decide (x = nm))) with
  | true => rw [cond_true]; simp
  | false =>
   rw [cond_false]
   have := ocFs_len kids (bif bindsB ⟨k, ar, nm, vars, args, kids⟩ then bd ++ [nm] else bd) out
   omega
theorem ocFs_len : ∀ (l : List GFml) (bd : List ByteArray) (out : List GSym), (ocFs l bd out).length ≤ out.length + ndFs l
 | [], bd, out => by simp [ocFs, ndFs]
 | x :: l, bd, out => by
  have h1 := ocF_len x bd out
  have h2 := ocFs_len l bd (ocF x bd out)
  rw [ocFs, ndFs]
  omega
end
theorem sym_sz (o : List GSym) : ∀ x ∈ o.map GSym.av, x.size = 2 := by
 intro x hx
 obtain ⟨y, _, rfl⟩ := List.mem_map.1 hx
 rfl
theorem ref_occ : ∀ (N : Nat) (f : GFml) (bd : List ByteArray) (out : List GSym) (tb : Option Nat) (tc : Nat) (hN : ndF f ≤ N) (ho : f.Ok) (hb : bd.length + ndF f ≤ 1000000) (hout : out.length + ndF f ≤ 1000000),
  Tri Tryz.prog 48 [f.st, strs bd, .slt (out.map GSym.av) tb tc] [.tail tb (out.map GSym.av).length tc 2]
   (fun x h => ∃ b' c', x = .ret (.slt ((ocF f bd out).map GSym.av) b' c') ∧ h = [.tail b' ((ocF f bd out).map GSym.av).length c' 2]) := by
 intro N
 induction N using Nat.strongRecOn with
 | _ N ih =>
  intro f bd out tb tc hN ho hbl hout
  have hnd := ndF_eq f
  have hB := ref_Binds f
  have hM := ref_Among bd f.Name (by omega)
  obtain ⟨_, q6, q7⟩ := ho
  obtain ⟨k, ar, nm, vars, args, kids⟩ := f
  rw [ocF]
  generalize bindsB ⟨k, ar, nm, vars, args, kids⟩ = B at *
  generalize bindsN ⟨k, ar, nm, vars, args, kids⟩ = n at *
  simp only at *
  generalize (bd.any fun x => decide (x = nm)) = M at *
  refine Tri.enter 58 Tryz.func48 rfl rfl rfl rfl fun Fr w0 => ?_
  repeat' (first | (refine AW.r 0 ?_; (refine AL.d (AOp.box_ro (v := .st [.int .i64 k, .int .i64 ar, .str nm, strs vars, strs args, .sl (kids.map GFml.av)]) rfl rfl) ?_) <;> refine AL.es 1 ?_ <;> refine AL.nil ?_) | refine AW.go ?_ | fail)
  refine AW.cut (fun af ah => ∃ v : Bool, af = [(1, strs bd), (2, .slt (out.map GSym.av) tb tc), (3, .at (.st [.int .i64 k, .int .i64 ar, .str nm, strs vars, strs args, .sl (kids.map GFml.av)])), (19, .bool v)] ∧ ah = [.tail tb (out.map GSym.av).length tc 2] ∧ v = (k == 0 && !M)) ?_ ?_
  ·repeat' (first | (refine xS 1 4 ?_; ((refine AL.gx (fun hb => ?_) (fun hb => ?_) <;> refine AL.es 3 ?_)) <;> (first | (refine AL.gd ?_; refine AL.d (AOp.call rfl rfl (hM.pure _)) ?_) | refine AL.gs ?_) <;> refine AL.es 2 ?_ <;> refine AL.nil ?_) | fail)
   all_goals refine AW.meet [1, 2, 3, 19] ⟨_, rfl, rfl, ?_⟩
   all_goals (rw [hb]; rfl)
  rintro af ah ⟨v, rfl, rfl, hv⟩
  rw [← hv]
  clear hv
  cases v with
  | true =>
   rw [cond_true]
   have e2 : (out ++ [⟨nm, args.length⟩] : List GSym).map GSym.av = out.map GSym.av ++ [.st [.str nm, .int .i64 (args.map AV.str).length]] := by simp [GSym.av]
   rw [e2]
   repeat' (first | (refine xS 2 6 ?_; (refine AL.d (AOp.build (pl := [(0, 1), (1, 1)]) (z := .st [.str ⟨#[]⟩, .int .i64 0]) (by kernel_rfl) rfl rfl rfl) ?_) <;> refine AL.d (AOp.lit (e := 64) (sz := 2) (by kernel_rfl) rfl rfl rfl (by simp [AV.size, AV.sizes]) (by decide)) ?_ <;> refine AL.append (i := 0) (xs := out.map GSym.av) (e := 64) (sz := 2) (bytes := 24) rfl rfl rfl rfl (by kernel_rfl) (by kernel_rfl) (sym_sz out) (by simp [AV.size, AV.sizes]) rfl (by simp only [lM]; simp; omega) (by simp only [lM]; simp; omega) rfl fun b' c' => ?_ <;> refine AL.es 1 ?_ <;> refine AL.nil ?_) | refine AW.jt ?_ | fail)
   exact AW.retv rfl ⟨_, _, rfl, rfl⟩
  | false =>
   rw [cond_false]
   repeat' (first | (refine xS 3 1 ?_; refine AL.d (AOp.call rfl rfl (hB.pure _)) ?_; refine xN 5 ?_) | refine AW.jf ?_ | fail)
   have hlen : (bif B then bd ++ [nm] else bd).length ≤ bd.length + 1 := by cases B <;> simp
   refine AW.cut (fun af ah => af = [(1, strs (bif B then bd ++ [nm] else bd)), (2, .slt (out.map GSym.av) tb tc), (3, .at (.st [.int .i64 k, .int .i64 ar, .str nm, strs vars, strs args, .sl (kids.map GFml.av)]))] ∧ ah = [.tail tb (out.map GSym.av).length tc 2]) ?_ ?_
   ·cases B with
    | false =>
     repeat' (first | refine AW.re 4 1 ?_ | refine AW.jf ?_ | refine AW.go ?_ | fail)
     exact AW.meet [1, 2, 3] ⟨rfl, rfl⟩
    | true =>
     have hm : strs (bd ++ [nm]) = .sl ([] ++ bd.map AV.str ++ [.str nm]) := by simp [strs]
     rw [cond_true, hm]
     repeat' (first | refine AW.re 4 1 ?_ | (refine AW.ex 5 [false] [0, 2, 6, 7] ?_; refine AQE.hl ?_; refine AQE.e ?_; refine AQE.hl ?_; refine AQE.p rfl AOp.fa ?_; refine AQE.p rfl AOp.la ?_; refine AQE.p rfl (AOp.lit (e := 9) (sz := 1) (by kernel_rfl) rfl rfl rfl (P_one rfl) (by decide)) ?_; refine AQE.hl ?_; refine AQE.hl ?_; refine AQE.nil ?_; refine AX.o (n := 3) 0 ?_; refine AXO.lit_own (e := 9) (sz := 1) (by kernel_rfl) rfl rfl rfl P_nil (by decide) fun b0 => ?_; try dsimp only [sA, sB, sC, sD] <;> refine AX.o (n := 2) 2 ?_ <;> refine AXO.append (i := 0) (e := 9) (sz := 1) (bytes := 16) rfl rfl rfl rfl (by kernel_rfl) (by kernel_rfl) (by repeat' (exact P_nil)) (by repeat' (exact P_map fun _ => rfl)) (ok_all (by repeat' (exact P_map fun _ => rfl))) (by (try simp only [lA, lM, List.length_take, List.length_drop, List.length_cons, List.length_nil, List.length_replicate]); omega) (by (try simp only [lA, lM, List.length_take, List.length_drop, List.length_cons, List.length_nil, List.length_replicate]); omega) rfl fun b' c' => ?_ <;> try dsimp only [sA, sB, sC, sD] <;> refine AX.o (n := 1) 6 ?_ <;> refine AXO.append (i := 0) (e := 9) (sz := 1) (bytes := 16) rfl rfl rfl rfl (by kernel_rfl) (by kernel_rfl) (by repeat' (first | exact P_nil | refine P_app ?_ ?_ | exact P_map fun _ => rfl)) (by repeat' (exact P_one rfl)) (ok_all (by repeat' (exact P_one rfl))) (by (try simp only [lA, lM, List.length_take, List.length_drop, List.length_cons, List.length_nil, List.length_replicate]); omega) (by (try simp only [lA, lM, List.length_take, List.length_drop, List.length_cons, List.length_nil, List.length_replicate]); omega) rfl fun b' c' => ?_ <;> try dsimp only [sA, sB, sC, sD] <;> refine AX.o (n := 0) 7 ?_ <;> refine AXO.e ?_ <;> try dsimp only [sA, sB, sC, sD] <;> refine AX.done_keep [0, 1, 2, 3, 6, 7, 9, 10, 11, 12, 13, 14, 15, 16, 17, 18, 19, 20, 21, 22, 23, 24, 25, 26, 27, 28, 29, 30, 31, 32, 33, 34, 42, 43, 44, 45, 46, 47, 48, 49, 50, 51, 52, 53, 54, 55, 56, 57] ?_) | refine AW.jt ?_ | fail)
     refine AW.as_sl 1 rfl ?_
     refine AW.drop (List.sublist_cons_self _ _) ?_
     exact AW.meet [1, 2, 3] ⟨rfl, rfl⟩
   rintro af ah ⟨rfl, rfl⟩
   generalize (bif B then bd ++ [nm] else bd) = b2 at *
   repeat' (first | refine AW.re 6 1 ?_ | refine AW.go ?_ | fail)
   refine AW.prune [1, 2, 3, 9] (AW.loop (fun mz af h => ∃ (i : Nat) (o : List GSym) (tt : Option Nat) (cc : Nat), i ≤ kids.length ∧ mz = kids.length - i ∧ af = [(1, strs b2), (2, .slt (o.map GSym.av) tt cc), (3, .at (.st [.int .i64 k, .int .i64 ar, .str nm, strs vars, strs args, .sl (kids.map GFml.av)])), (9, .int .i64 i)] ∧ h = [.tail tt (o.map GSym.av).length cc 2] ∧ (ocFs kids b2 out = ocFs (kids.drop i) b2 o ∧ o.length + ndFs (kids.drop i) ≤ 1000000)) kids.length ⟨0, out, tb, tc, Nat.zero_le _, rfl, rfl, rfl, ⟨rfl, by simp only [List.drop_zero]; omega⟩⟩ ?_)
   rintro mz af h ⟨i, o, tt, cc, hi, rfl, rfl, rfl, he⟩
   refine AW.seq ?_
   by_cases hlt : i < kids.length
   ·obtain ⟨he, hle⟩ := he
    obtain ⟨x, hx⟩ := get_lt hlt
    have hx' : (kids.map GFml.av)[((i : Nat) : Int).toNat]? = some (x.st) := GFml.get hx
    have hxm := lG hx
    have hnx := ndFs_mem hxm
    rw [drop_cons hx, ocFs] at he
    rw [drop_cons hx, ndFs] at hle
    have hc := ih (ndF x) (by omega) x b2 o tt cc (Nat.le_refl _) (q7 x hxm) (by omega) (by omega)
    have hol := ocF_len x b2 o
    repeat' (first | refine AW.re 7 5 ?_ | refine AW.jj (fun hb => ?_) (fun hb => ?_) | refine AW.go ?_ | fail)
    all_goals try (exfalso; simp only [dT, dF, lM] at *; omega)
    refine AW.r 9 ?_
    refine AL.es 3 ?_
    refine AL.d (iX hx') ?_
    refine AL.es 3 ?_
    refine AL.step rfl rfl (AOp.call rfl rfl hc) ?_ (by rintro _ _ ⟨_, _, e, _⟩; cases e)
    rintro _ _ ⟨b1, c1, e, rfl⟩
    injection e with e
    subst e
    refine AL.es 1 ?_
    refine AL.nil ?_
    repeat' (first | (refine xS 8 1 ?_; refine AL.d AOp.ad ?_; refine xN 1 ?_) | fail)
    refine AW.again_keep (kids.length - (i + 1)) [1, 2, 3, 9] (by omega) ⟨i + 1, _, b1, c1, hlt, rfl, rfl, rfl, ?_⟩
    exact ⟨he, by omega⟩
   ·obtain ⟨he, hle⟩ := he
    rw [List.drop_eq_nil_of_le (by omega), ocFs] at he
    rw [he]
    repeat' (first | refine AW.re 7 5 ?_ | refine AW.re 10 2 ?_ | refine AW.jj (fun hb => ?_) (fun hb => ?_) | refine AW.go ?_ | fail)
    all_goals try (exfalso; simp only [dT, dF, lM] at *; omega)
    exact AW.retv rfl ⟨_, _, rfl, rfl⟩
def clashB (x y : GSym) : Bool := decide (y.Name = x.Name) && (y.Arity != x.Arity)
def pairG : List GSym → List GSym → Bool
  | _, [] => true
  | pre, x :: l => (pre.all fun y => !clashB x y) && pairG (pre ++ [x]) l
theorem shaped_lfp {f : GFml} (h : shapedP f = true) : f.Kind = 8 → 0 < f.Kids.length := by
  intro h8
  simp only [shapedP, shp1, bA, dT] at h
  have h1 := h.1.1.1.1.1
  rw [h8] at h1
  simp [rulesP] at h1
  omega
theorem shsFs_mem {l : List GFml} {x : GFml} (h : shsFs l = true) (hx : x ∈ l) : shsF x = true := by
  induction l with
  | nil => cases hx
  | cons y l ih =>
    rw [shsFs, bA] at h
    rcases List.mem_cons.1 hx with rfl | hx
    · exact h.1
    · exact ih h.2 hx
theorem lfpOk_of (f : GFml) : shsF f = true → LfpOk f := by
  generalize hN : ndF f = N
  induction N using Nat.strongRecOn generalizing f with
  | _ N ih =>
    intro h
    have hnd := ndF_eq f
    rw [shsF_eq, bA] at h
    exact .mk (shaped_lfp h.2) fun x hx => ih (ndF x) (by have := ndFs_mem hx; omega) x rfl (shsFs_mem h.1 hx)
def validF (f : GFml) : Bool := (decide ((ctF f 61).1 ≤ 4000) && decide ((ctF f 61).2 ≤ 60) && shsF f && arF f [] && grF f) && pairG [] (ocF f [] [])
theorem ref_Valid (f : GFml) (ho : f.Ok) (hn : ndF f ≤ 900000) : Tri Tryz.prog 11 [f.st] [] (D (.bool (validF f)) []) := by
  have hC := ref_Count 61 f (by omega) ho (by omega)
  have hS := ref_shapes _ f (Nat.le_refl _) ho (by omega)
  have hA := ref_arities _ f [] (Nat.le_refl _) ho (by simp; omega)
  have hG := fun h => ref_grow _ f (Nat.le_refl _) ho (lfpOk_of f h)
  have hO := ref_occ _ f [] [] none 0 (Nat.le_refl _) ho (by simp; omega) (by simp; omega)
  have hOl : (ocF f [] []).length ≤ 900000 := by have := ocF_len f [] []; simp at this; omega
  unfold validF
  generalize hcn : (ctF f 61).1 = cn at *
  generalize hcd : (ctF f 61).2 = cd at *
  generalize shsF f = S at *
  generalize arF f [] = R at *
  generalize grF f = G at *
  generalize ocF f [] [] = T at *
  obtain ⟨k, ar, nm, vars, args, kids⟩ := f
  refine Tri.enter 71 Tryz.func11 rfl rfl rfl rfl fun Fr w0 => ?_
  repeat' (first | (refine AW.r 0 ?_; (refine AL.d (AOp.box_ro (v := .st [.int .i64 k, .int .i64 ar, .str nm, strs vars, strs args, .sl (kids.map GFml.av)]) rfl rfl) ?_) <;> refine AL.es 1 ?_ <;> refine AL.nil ?_) | (refine xS 1 1 ?_; refine AL.d (AOp.call rfl rfl hC) ?_; refine xN 5 ?_) | refine AW.go ?_ | fail)
  refine AW.cut (fun af ah => ∃ v : Bool, af = [(1, .at (.st [.int .i64 k, .int .i64 ar, .str nm, strs vars, strs args, .sl (kids.map GFml.av)])), (33, .bool v)] ∧ ah = [] ∧ v = !(decide (cn ≤ 4000) && decide (cd ≤ 60) && S && R && G)) ?_ ?_
  · repeat' (first | (refine xS 2 3 ?_; ((refine AL.gx (fun hb => ?_) (fun hb => ?_) <;> refine AL.es 4 ?_)) <;> (first | refine AL.es 1 ?_ | (refine AL.gx (fun hb => ?_) (fun hb => ?_) <;> refine AL.es 1 ?_)) <;> (first | (refine AL.gd ?_; (refine AL.d (AOp.call rfl rfl hS) ?_)) | refine AL.gs ?_) <;> refine AL.es 3 ?_ <;> (first | refine AL.es 1 ?_ | (refine AL.gx (fun hb => ?_) (fun hb => ?_) <;> refine AL.es 1 ?_)) <;> (first | (refine AL.gd ?_; (refine AL.d (AOp.call rfl rfl hA) ?_)) | refine AL.gs ?_) <;> refine AL.es 3 ?_ <;> (first | refine AL.es 1 ?_ | (refine AL.gx (fun hb => ?_) (fun hb => ?_) <;> refine AL.es 1 ?_)) <;> (first | (refine AL.gd ?_; (refine AL.d (AOp.call rfl rfl (hG (by simpa using (by assumption : (!S) = false)))) ?_)) | refine AL.gs ?_) <;> refine AL.es 2 ?_ <;> refine AL.nil ?_) | fail)
    all_goals refine AW.meet [1, 33] ⟨_, rfl, rfl, ?_⟩
    all_goals clear hC hS hA hG hO
    all_goals simp only [dT, dF, Bool.not_eq_true', Bool.not_eq_false'] at *
    all_goals first
      | (simp [*]; done)
      | (simp [*]; omega)
      | (rw [decide_eq_true (show cn ≤ 4000 by omega), decide_eq_true (show cd ≤ 60 by omega)]; simp [*]; done)
  rintro af ah ⟨v, rfl, rfl, hv⟩
  cases v with
  | true =>
    repeat' (first | refine AW.re 3 1 ?_ | refine AW.jt ?_ | fail)
    have e : (decide (cn ≤ 4000) && decide (cd ≤ 60) && S && R && G) = false := by simpa only [Bool.not_eq_true'] using hv.symm
    exact AW.retv rfl ⟨by rw [e]; rfl, rfl⟩
  | false =>
  have e : (decide (cn ≤ 4000) && decide (cd ≤ 60) && S && R && G) = true := by simpa only [Bool.not_eq_false'] using hv.symm
  rw [e, Bool.true_and]
  clear e hv hC hS hA hG
  refine AW.own_nil 2 ?_
  repeat' (first | refine AW.jf ?_ | refine AW.go ?_ | fail)
  refine AW.region_at 4 ?_
  refine AL.es 1 ?_
  refine AL.step rfl rfl (AOp.callV (args := [.st [.int .i64 k, .int .i64 ar, .str nm, strs vars, strs args, .sl (kids.map GFml.av)], strs [], .slt [] none 0]) rfl (fun S w a hfr => ?_) hO) ?_ (by rintro _ _ ⟨_, _, e, _⟩; cases e)
  · have h1 := aeval_rel hfr (x := .tmp 34) rfl
    have h2 := rel_nil (S := S) (w := w)
    simp only [RelVs]
    exact ⟨_, _, rfl, h1.1, h1.2, _, _, rfl, slt_sl _ _ _ h2.1, (fun cs e => by cases e), _, _, rfl, h2.1, h2.2, rfl⟩
  rintro _ _ ⟨tb, tc, e, rfl⟩
  injection e with e
  subst e
  refine AL.es 1 ?_
  refine AL.nil ?_
  refine AW.as_sl 5 rfl ?_
  refine AW.drop (List.nil_sublist _) ?_
  repeat' (first | refine AW.re 5 1 ?_ | refine AW.go ?_ | fail)
  refine AW.prune [5, 6] (AW.loop (fun mz af h => ∃ (i : Nat), i ≤ T.length ∧ mz = T.length - i ∧ af = [(5, .sl (T.map GSym.av)), (6, .int .i64 i)] ∧ h = [] ∧ pairG [] T = pairG (T.take i) (T.drop i)) T.length ⟨0, Nat.zero_le _, rfl, rfl, rfl, by simp⟩ ?_)
  rintro mz af h ⟨i, hi, rfl, rfl, rfl, he⟩
  refine AW.seq ?_
  by_cases hlt : i < T.length
  · obtain ⟨x, hx⟩ := get_lt hlt
    obtain ⟨I0, hI0⟩ : ∃ j : Nat, j = i := ⟨i, rfl⟩
    subst hI0
    have hlt0 := hlt
    have he0 := he
    have hxp : (T.map GSym.av)[((I0 : Nat) : Int).toNat]? = some (.st [.str x.Name, .int .i64 x.Arity]) := map_get hx
    rw [drop_cons hx, pairG, take_snoc hx] at he0
    repeat' (first | refine AW.re 6 4 ?_ | refine AW.re 8 1 ?_ | refine AW.jj (fun hb => ?_) (fun hb => ?_) | refine AW.go ?_ | fail)
    all_goals try (exfalso; simp only [dT, dF, lM] at *; omega)
    refine AW.prune [5, 6, 7] (AW.loop (fun mz af h => ∃ (i : Nat), i ≤ I0 ∧ mz = I0 - i ∧ af = [(5, .sl (T.map GSym.av)), (6, .int .i64 I0), (7, .int .i64 i)] ∧ h = [] ∧ ((T.take I0).all fun y => !clashB x y) = (((T.take I0).drop i).all fun y => !clashB x y)) I0 ⟨0, Nat.zero_le _, rfl, rfl, rfl, rfl⟩ ?_)
    rintro mz af h ⟨i, hi, rfl, rfl, rfl, he⟩
    refine AW.seq ?_
    by_cases hlt : i < I0
    · obtain ⟨y, hy⟩ := get_lt (show i < T.length by omega)
      have hyp : (T.map GSym.av)[((i : Nat) : Int).toNat]? = some (.st [.str y.Name, .int .i64 y.Arity]) := map_get hy
      have hyt : (T.take I0)[i]? = some y := by rw [List.getElem?_take]; simp [hlt, hy]
      rw [drop_cons hyt, List.all_cons] at he
      repeat' (first | refine AW.re 9 3 ?_ | (refine AW.dq 11 ?_; refine AQ.es 2 ?_; refine AQ.p rfl (iX hyp) ?_; refine AQ.es 4 ?_; refine AQ.p rfl (iX hxp) ?_; refine AQ.es 4 ?_; ((refine AQ.x (fun hb => ?_) (fun hb => ?_) <;> refine AQ.es 2 ?_)) <;> (first | refine AQ.gp rfl (iX hyp) ?_ | refine AQ.k ?_) <;> refine AQ.es 4 ?_ <;> (first | refine AQ.gp rfl (iX hxp) ?_ | refine AQ.k ?_) <;> refine AQ.es 4 ?_ <;> refine AQ.nil ?_) | refine AW.re 12 1 ?_ | (refine xS 10 1 ?_; refine AL.d AOp.ad ?_; refine xN 1 ?_) | refine AW.jf ?_ | refine AW.jj (fun hb => ?_) (fun hb => ?_) | refine AW.go ?_ | fail)
      all_goals try (exfalso; simp only [dT, dF, lM] at *; omega)
      all_goals simp only [toList_beq, clashB] at *
      all_goals first
        | (have h : (decide (y.Name = x.Name) && (y.Arity != x.Arity)) = false := by simp_all
           refine AW.again_keep (I0 - (i + 1)) [5, 6, 7] (by omega) ⟨i + 1, hlt, rfl, rfl, rfl, ?_⟩
           rw [he, h]; rfl)
        | (have h : (decide (y.Name = x.Name) && (y.Arity != x.Arity)) = true := by simp_all
           refine AW.retv rfl ⟨retB ?_, rfl⟩
           rw [he0, he, h]; rfl)
    · rw [List.drop_eq_nil_of_le (by simp; omega)] at he
      rw [he] at he0
      repeat' (first | refine AW.re 9 3 ?_ | (refine xS 7 1 ?_; refine AL.d AOp.ad ?_; refine xN 1 ?_) | refine AW.jj (fun hb => ?_) (fun hb => ?_) | refine AW.go ?_ | fail)
      all_goals try (exfalso; simp only [dT, dF, lM] at *; omega)
      exact AW.again_keep (T.length - (I0 + 1)) [5, 6] (by omega) ⟨I0 + 1, hlt0, rfl, rfl, rfl, he0⟩
  · rw [List.drop_eq_nil_of_le (by omega), pairG] at he
    rw [he]
    repeat' (first | refine AW.re 6 4 ?_ | refine AW.re 13 1 ?_ | refine AW.jj (fun hb => ?_) (fun hb => ?_) | refine AW.go ?_ | fail)
    all_goals try (exfalso; simp only [dT, dF, lM] at *; omega)
    exact AW.retv rfl ⟨rfl, rfl⟩
theorem ref_SameNames (a b : List ByteArray) (ha : a.length ≤ 4611686018427387904) (hb0 : b.length ≤ 4611686018427387904) :
  Tri Tryz.prog 43 [strs a, strs b] [] (D (.bool (decide (a = b))) []) := by
 refine Tri.enter 26 Tryz.func43 rfl rfl rfl rfl fun Fr w0 => ?_
 by_cases hl : a.length = b.length
 ·repeat' (first | refine AW.re 0 1 ?_ | refine AW.re 1 5 ?_ | refine AW.re 2 1 ?_ | refine AW.re 3 1 ?_ | refine AW.jj (fun hb => ?_) (fun hb => ?_) | refine AW.go ?_ | fail)
  all_goals try (exfalso; simp only [lM, bne_iff_ne, ne_eq] at hb; omega)
  refine AW.prune [0, 1, 5] (AW.loop (fun mz af h => ∃ (i : Nat), i ≤ a.length ∧ mz = a.length - i ∧ af = [(0, strs a), (1, strs b), (5, .int .i64 i)] ∧ h = [] ∧ decide (a = b) = decide (a.drop i = b.drop i)) a.length ⟨0, Nat.zero_le _, rfl, rfl, rfl, by simp⟩ ?_)
  rintro mz af h ⟨i, hi, rfl, rfl, rfl, he⟩
  refine AW.seq ?_
  by_cases hlt : i < a.length
  ·obtain ⟨x, hx⟩ := get_lt hlt
   obtain ⟨y, hy⟩ := get_lt (show i < b.length by omega)
   have hx' : (a.map AV.str)[((i : Nat) : Int).toNat]? = some (.str x) := map_get hx
   have hy' : (b.map AV.str)[((i : Nat) : Int).toNat]? = some (.str y) := map_get hy
   rw [drop_cons hx, drop_cons hy] at he
   repeat' (first | refine AW.re 4 4 ?_ | (refine AW.dq 6 ?_; refine AQ.es 2 ?_; refine AQ.p rfl (iX hx') ?_; refine AQ.es 3 ?_; refine AQ.p rfl (iX hy') ?_; refine AQ.es 2 ?_; refine AQ.nil ?_) | refine AW.re 7 1 ?_ | (refine xS 5 1 ?_; refine AL.d AOp.ad ?_; refine xN 1 ?_) | refine AW.jj (fun hb => ?_) (fun hb => ?_) | refine AW.go ?_ | fail)
   all_goals try (exfalso; simp only [dT, dF, lM] at *; omega)
   all_goals rw [toList_beq] at hb
   ·have h : ¬ x = y := by simpa using hb
    exact AW.retv rfl ⟨retB (by rw [he]; simp [h]), rfl⟩
   ·have h : x = y := by simpa using hb
    refine AW.again_keep (a.length - (i + 1)) [0, 1, 5] (by omega) ⟨i + 1, hlt, rfl, rfl, rfl, ?_⟩
    rw [he]; simp [h]
  ·rw [List.drop_eq_nil_of_le (by omega), List.drop_eq_nil_of_le (by omega)] at he
   repeat' (first | refine AW.re 4 4 ?_ | refine AW.re 8 1 ?_ | refine AW.jj (fun hb => ?_) (fun hb => ?_) | refine AW.go ?_ | fail)
   all_goals try (exfalso; simp only [dT, dF, lM] at *; omega)
   exact AW.retv rfl ⟨retB (by rw [he]; rfl), rfl⟩
 ·have hne : decide (a = b) = false := decide_eq_false (by rintro rfl; exact hl rfl)
  repeat' (first | refine AW.re 0 1 ?_ | refine AW.re 1 5 ?_ | refine AW.re 2 1 ?_ | refine AW.re 3 1 ?_ | refine AW.jj (fun hb => ?_) (fun hb => ?_) | refine AW.go ?_ | fail)
  ·exact AW.retv rfl ⟨retB hne, rfl⟩
  ·exfalso; simp only [lM, bne_eq_false_iff_eq] at hb; omega
mutual
def eqF : GFml → GFml → Bool
 | ⟨k, ar, nm, vars, args, kids⟩, g => k == g.Kind && ar == g.Arity && decide (nm = g.Name) && decide (vars = g.Vars) && decide (args = g.Args) && ((kids.length : Int) == g.Kids.length) && eqFs kids g.Kids
def eqFs : List GFml → List GFml → Bool
 | x :: l, y :: m => eqF x y && eqFs l m
 | _, _ => true
end
theorem ref_Same : ∀ (N : Nat) (f g : GFml) (hN : ndF f ≤ N) (hf : f.Ok) (hg : g.Ok), Tri Tryz.prog 22 [f.st, g.st] [] (D (.bool (eqF f g)) []) := by
 intro N
 induction N using Nat.strongRecOn with
 | _ N ih =>
  intro f g hN hf hg
  have hnd := ndF_eq f
  obtain ⟨⟨_, _, _, a4, a5⟩, q6, q7⟩ := hf
  obtain ⟨⟨_, _, _, b4, b5⟩, r6, r7⟩ := hg
  have l1 := a4.1
  have l2 := a5.1
  have l3 := b4.1
  have l4 := b5.1
  have hv := ref_SameNames f.Vars g.Vars (by omega) (by omega)
  have ha := ref_SameNames f.Args g.Args (by omega) (by omega)
  obtain ⟨k, ar, nm, vars, args, kids⟩ := f
  obtain ⟨k', ar', nm', vars', args', kids'⟩ := g
  rw [eqF]
  simp only at *
  generalize decide (vars = vars') = V at *
  generalize decide (args = args') = A at *
  refine Tri.enter 69 Tryz.func22 rfl rfl rfl rfl fun Fr w0 => ?_
  repeat' (first | (refine AW.r 0 ?_; (refine AL.d (AOp.box_ro (v := .st [.int .i64 k, .int .i64 ar, .str nm, strs vars, strs args, .sl (kids.map GFml.av)]) rfl rfl) ?_) <;> (refine AL.d (AOp.box_ro (v := .st [.int .i64 k', .int .i64 ar', .str nm', strs vars', strs args', .sl (kids'.map GFml.av)]) rfl rfl) ?_) <;> refine AL.es 1 ?_ <;> refine AL.nil ?_) | refine AW.go ?_ | fail)
  refine AW.cut (fun af ah => ∃ v : Bool, af = [(2, .at (.st [.int .i64 k, .int .i64 ar, .str nm, strs vars, strs args, .sl (kids.map GFml.av)])), (3, .at (.st [.int .i64 k', .int .i64 ar', .str nm', strs vars', strs args', .sl (kids'.map GFml.av)])), (49, .bool v)] ∧ ah = [] ∧ v = !(k == k' && ar == ar' && decide (nm = nm') && V && A && ((kids.length : Int) == kids'.length))) ?_ ?_
  ·repeat' (first | (refine xS 1 6 ?_; ((refine AL.gx (fun hb => ?_) (fun hb => ?_) <;> refine AL.es 7 ?_)) <;> (first | refine AL.es 7 ?_ | (refine AL.gx (fun hb => ?_) (fun hb => ?_) <;> refine AL.es 7 ?_)) <;> (first | refine AL.es 4 ?_ | (refine AL.gx (fun hb => ?_) (fun hb => ?_) <;> refine AL.es 4 ?_)) <;> (first | (refine AL.gd ?_; (refine AL.d (AOp.call rfl rfl hv) ?_)) | refine AL.gs ?_) <;> refine AL.es 3 ?_ <;> (first | refine AL.es 4 ?_ | (refine AL.gx (fun hb => ?_) (fun hb => ?_) <;> refine AL.es 4 ?_)) <;> (first | (refine AL.gd ?_; (refine AL.d (AOp.call rfl rfl ha) ?_)) | refine AL.gs ?_) <;> refine AL.es 3 ?_ <;> (first | refine AL.es 8 ?_ | (refine AL.gx (fun hb => ?_) (fun hb => ?_) <;> refine AL.es 8 ?_)) <;> refine AL.nil ?_) | fail)
   all_goals refine AW.meet [2, 3, 49] ⟨_, rfl, rfl, ?_⟩
   all_goals clear hv ha ih
   all_goals simp only [lM, toList_beq, bne, Bool.not_eq_true', Bool.not_eq_false'] at *
   all_goals (simp only [*, Bool.true_and, Bool.false_and, Bool.and_false, Bool.and_true, Bool.not_false, Bool.not_true])
  rintro af ah ⟨v, rfl, rfl, hv1⟩
  cases v with
  | true =>
   repeat' (first | refine AW.re 2 1 ?_ | refine AW.jt ?_ | fail)
   have e : (k == k' && ar == ar' && decide (nm = nm') && V && A && ((kids.length : Int) == kids'.length)) = false := by simpa only [Bool.not_eq_true'] using hv1.symm
   exact AW.retv rfl ⟨by rw [e]; rfl, rfl⟩
  | false =>
  have e : (k == k' && ar == ar' && decide (nm = nm') && V && A && ((kids.length : Int) == kids'.length)) = true := by simpa only [Bool.not_eq_false'] using hv1.symm
  rw [e, Bool.true_and]
  have hkl : kids.length = kids'.length := by simp only [bA, beq_iff_eq] at e; omega
  clear e hv1
  repeat' (first | refine AW.re 3 1 ?_ | refine AW.jf ?_ | refine AW.go ?_ | fail)
  refine AW.prune [2, 3, 5] (AW.loop (fun mz af h => ∃ (i : Nat), i ≤ kids.length ∧ mz = kids.length - i ∧ af = [(2, .at (.st [.int .i64 k, .int .i64 ar, .str nm, strs vars, strs args, .sl (kids.map GFml.av)])), (3, .at (.st [.int .i64 k', .int .i64 ar', .str nm', strs vars', strs args', .sl (kids'.map GFml.av)])), (5, .int .i64 i)] ∧ h = [] ∧ eqFs kids kids' = eqFs (kids.drop i) (kids'.drop i)) kids.length ⟨0, Nat.zero_le _, rfl, rfl, rfl, rfl⟩ ?_)
  rintro mz af h ⟨i, hi, rfl, rfl, rfl, he⟩
  refine AW.seq ?_
  by_cases hlt : i < kids.length
  ·obtain ⟨x, hx⟩ := get_lt hlt
   obtain ⟨y, hy⟩ := get_lt (show i < kids'.length by omega)
   have hx' : (kids.map GFml.av)[((i : Nat) : Int).toNat]? = some (x.st) := GFml.get hx
   have hy' : (kids'.map GFml.av)[((i : Nat) : Int).toNat]? = some (y.st) := GFml.get hy
   have hxm := lG hx
   have hnx := ndFs_mem hxm
   have hc := ih (ndF x) (by omega) x y (Nat.le_refl _) (q7 x hxm) (r7 y (lG hy))
   rw [drop_cons hx, drop_cons hy, eqFs] at he
   repeat' (first | refine AW.re 4 5 ?_ | (refine AW.dq 6 ?_; refine AQ.es 3 ?_; refine AQ.p rfl (iX hx') ?_; refine AQ.es 4 ?_; refine AQ.p rfl (iX hy') ?_; refine AQ.es 1 ?_; refine AQ.p rfl (AOp.call rfl rfl hc) ?_; refine AQ.es 1 ?_; refine AQ.nil ?_) | refine AW.re 7 1 ?_ | (refine xS 5 1 ?_; refine AL.d AOp.ad ?_; refine xN 1 ?_) | refine AW.jj (fun hb => ?_) (fun hb => ?_) | refine AW.go ?_ | fail)
   all_goals try (exfalso; simp only [dT, dF, lM] at *; omega)
   ·have h : eqF x y = false := by simpa using hb
    exact AW.retv rfl ⟨retB (by rw [he, h]; rfl), rfl⟩
   ·have h : eqF x y = true := by simpa using hb
    refine AW.again_keep (kids.length - (i + 1)) [2, 3, 5] (by omega) ⟨i + 1, hlt, rfl, rfl, rfl, ?_⟩
    rw [he, h]; rfl
  ·rw [List.drop_eq_nil_of_le (by omega), List.drop_eq_nil_of_le (by omega)] at he
   repeat' (first | refine AW.re 4 5 ?_ | refine AW.re 8 1 ?_ | refine AW.jj (fun hb => ?_) (fun hb => ?_) | refine AW.go ?_ | fail)
   all_goals try (exfalso; simp only [dT, dF, lM] at *; omega)
   exact AW.retv rfl ⟨retB (by rw [he]; simp [eqFs]), rfl⟩
def bindsS (f : GFml) : ByteArray := if bindsB f = true then f.Name else empB
theorem f_binds (f : GFml) : Tri Tryz.prog 170 [f.st] [] (D (.tup [.str (bindsS f), .int .i64 (bindsN f), .bool (bindsB f)]) []) := by
 obtain ⟨k, ar, nm, vars, args, kids⟩ := f
 refine Tri.enter 21 Tryz.func170 rfl rfl rfl rfl fun Fr w0 => ?_
 repeat' (first | (refine AW.r 0 ?_; (refine AL.d (AOp.box_ro (v := .st [.int .i64 k, .int .i64 ar, .str nm, strs vars, strs args, .sl (kids.map GFml.av)]) rfl rfl) ?_) <;> refine AL.es 3 ?_ <;> refine AL.nil ?_) | refine AW.re 1 2 ?_ | refine AW.re 2 2 ?_ | refine AW.re 3 2 ?_ | (refine AW.dq 4 ?_; refine AQ.es 8 ?_; refine AQ.nil ?_) | refine AW.re 5 2 ?_ | (refine AW.dq 6 ?_; refine AQ.es 7 ?_; refine AQ.nil ?_) | refine AW.re 7 3 ?_ | refine AW.jj (fun hb => ?_) (fun hb => ?_) | fail)
 all_goals refine AW.retv rfl ⟨?_, rfl⟩
 all_goals (simp only [bindsS, bindsB, bindsN, empB]; simp_all [ofConst])
theorem IndexFunc_Fml (xs : List GFml) (hl : xs.length ≤ 4611686018427387904) (fid : FuncId) (caps : List AV) (p : GFml → Bool) (hf : ∀ x ∈ xs, Tri Tryz.prog fid (x.st :: caps) [] (D (.bool (p x)) [])) :
  Tri Tryz.prog 150 [.sl (xs.map GFml.av), .fn fid caps] [] (D (.int .i64 (idxFrom p xs 0)) []) := by
 refine Tri.enter 19 Tryz.func150 rfl rfl rfl rfl fun Fr w0 => ?_
 repeat (first | refine AL.ev rfl rfl rfl rfl ?_ | refine AW.seq ?_ | refine AL.nil ?_ | refine AW.region ?_ | refine AL.det (AOp.len rfl rfl (by kernel_rfl)) rfl rfl rfl ?_ | refine AW.block ?_ | fail)
 refine AW.prune [0, 1, 7, 8] (AW.loop (fun m af h => ∃ k : Nat, k ≤ xs.length ∧ m = xs.length - k ∧ af = [(0, .sl (xs.map GFml.av)), (1, .fn fid caps), (7, .int .i64 (xs.map GFml.av).length), (8, .int .i64 k)] ∧ h = [] ∧ idxFrom p xs 0 = idxFrom p (xs.drop k) k) xs.length ⟨0, Nat.zero_le _, rfl, rfl, rfl, rfl⟩ ?_)
 rintro m af h ⟨k, hk, rfl, rfl, rfl, hp⟩
 repeat (first | refine AL.ev rfl rfl rfl rfl ?_ | refine AW.seq ?_ | refine AL.nil ?_ | refine AW.region ?_ | fail)
 refine AW.cond rfl (fun hb => ?_) (fun hb => ?_)
 ·have hlt : k < xs.length := by simpa using hb
  obtain ⟨x, hx⟩ := get_lt hlt
  have hx' : (xs.map GFml.av)[((k : Nat) : Int).toNat]? = some x.st := GFml.get hx
  have hc := hf x (lG hx)
  repeat (first | refine AL.det (iX hx') rfl rfl rfl ?_ | refine AL.det (AOp.call rfl rfl hc) rfl rfl rfl ?_ | refine AL.ev rfl rfl rfl rfl ?_ | refine AW.seq ?_ | refine AL.nil ?_ | refine AW.region ?_ | refine AL.det (AOp.load_at rfl rfl (by kernel_rfl)) rfl rfl rfl ?_ | refine AW.block ?_ | refine AW.skip ?_ | fail)
  rw [drop_cons hx] at hp
  simp only [idxFrom] at hp
  refine AW.cond rfl (fun hb => ?_) (fun hb => ?_)
  ·repeat (first | refine AL.ev rfl rfl rfl rfl ?_ | refine AW.seq ?_ | refine AL.nil ?_ | refine AW.region ?_ | fail)
   rw [if_pos hb] at hp
   exact AW.retv rfl ⟨by rw [hp], rfl⟩
  ·rw [if_neg (by simp [hb])] at hp
   repeat (first | refine AL.ev rfl rfl rfl rfl ?_ | refine AL.nil ?_ | refine AW.region ?_ | refine AW.endblk ?_ | refine AW.skip ?_ | refine AL.det (AOp.add rfl rfl (by omega)) rfl rfl rfl ?_ | fail)
   exact AW.again_keep (xs.length - (k + 1)) [0, 1, 7, 8] (by omega) ⟨k + 1, hlt, rfl, rfl, rfl, hp⟩
 ·have hge : k = xs.length := by
   have : ¬ k < xs.length := by simpa using hb
   omega
  subst hge
  repeat (first | refine AL.ev rfl rfl rfl rfl ?_ | refine AW.seq ?_ | refine AL.nil ?_ | refine AW.region ?_ | refine AW.exit rfl ?_ | fail)
  refine AW.retv rfl ⟨?_, rfl⟩
  rw [hp]; simp [idxFrom]; rfl
theorem ContainsFunc_Fml (xs : List GFml) (hl : xs.length ≤ 4611686018427387904) (fid : FuncId) (caps : List AV) (p : GFml → Bool) (hf : ∀ x ∈ xs, Tri Tryz.prog fid (x.st :: caps) [] (D (.bool (p x)) [])) :
  Tri Tryz.prog 107 [.sl (xs.map GFml.av), .fn fid caps] [] (D (.bool (xs.any p)) []) := by
 have hc := IndexFunc_Fml xs hl fid caps p hf
 refine Tri.enter 9 Tryz.func107 rfl rfl rfl rfl fun Fr w0 => ?_
 repeat (first | refine AL.det (AOp.call rfl rfl hc) rfl rfl rfl ?_ | refine AL.ev rfl rfl rfl rfl ?_ | refine AW.seq ?_ | refine AL.nil ?_ | refine AW.region ?_ | fail)
 refine AW.retv rfl ⟨?_, rfl⟩
 have := idxFrom_lt (p := p) xs 0
 have h2 : decide (idxFrom p xs 0 ≥ 0) = xs.any p := by rw [Bool.eq_iff_iff, decide_eq_true_iff, this]
 rw [h2]
mutual
def ocs (s : ByteArray) : GFml → Bool
 | ⟨k, ar, nm, vars, args, kids⟩ => bif k == 0 then decide (nm = s) else bif bindsB ⟨k, ar, nm, vars, args, kids⟩ && decide (nm = s) then false else ocsL s kids
def ocsL (s : ByteArray) : List GFml → Bool
 | [] => false
 | x :: l => ocs s x || ocsL s l
end
theorem ocsL_any (s : ByteArray) : ∀ l : List GFml, ocsL s l = l.any (ocs s)
 | [] => rfl
 | x :: l => by rw [ocsL, List.any_cons, ocsL_any s l]
theorem occ1 (s : ByteArray) (x : GFml) {v : Bool} (hc : Tri Tryz.prog 192 [x.st, .str s] [] (D (.bool v) [])) : Tri Tryz.prog 213 [x.st, .at (.str s)] [] (D (.bool v) []) := by
 obtain ⟨k, ar, nm, vars, args, kids⟩ := x
 refine Tri.enter 7 Tryz.func213 rfl rfl rfl rfl fun Fr w0 => ?_
 repeat' (first | (refine AW.r 0 ?_; (refine AL.d (AOp.box_ro (v := .st [.int .i64 k, .int .i64 ar, .str nm, strs vars, strs args, .sl (kids.map GFml.av)]) rfl rfl) ?_) <;> refine AL.es 1 ?_ <;> refine AL.nil ?_) | (refine xS 1 2 ?_; refine AL.d (AOp.call rfl rfl hc) ?_; refine xN 1 ?_) | fail)
 exact AW.retv rfl ⟨rfl, rfl⟩
theorem f_occurs (s : ByteArray) : ∀ (N : Nat) (f : GFml) (hN : ndF f ≤ N) (ho : f.Ok), Tri Tryz.prog 192 [f.st, .str s] [] (D (.bool (ocs s f)) []) := by
 intro N
 induction N using Nat.strongRecOn with
 | _ N ih =>
  intro f hN ho
  have hnd := ndF_eq f
  have hB := f_binds f
  obtain ⟨_, q6, q7⟩ := ho
  have hK := ContainsFunc_Fml f.Kids (by omega) 213 [.at (.str s)] (ocs s) fun x hx => occ1 s x (ih (ndF x) (by have := ndFs_mem hx; omega) x (Nat.le_refl _) (q7 x hx))
  obtain ⟨k, ar, nm, vars, args, kids⟩ := f
  rw [ocs, ocsL_any]
  unfold bindsS at hB
  generalize bindsB ⟨k, ar, nm, vars, args, kids⟩ = B at *
  generalize bindsN ⟨k, ar, nm, vars, args, kids⟩ = n at *
  simp only at *
  generalize kids.any (ocs s) = R at *
  refine Tri.enter 31 Tryz.func192 rfl rfl rfl rfl fun Fr w0 => ?_
  cases k0 : (k == 0) with
  | true =>
   rw [cond_true]
   repeat' (first | (refine AW.r 0 ?_; (refine AL.d (AOp.box_ro (v := .st [.int .i64 k, .int .i64 ar, .str nm, strs vars, strs args, .sl (kids.map GFml.av)]) rfl rfl) ?_) <;> (refine AL.d (AOp.box_ro (v := .str s) rfl rfl) ?_) <;> refine AL.es 1 ?_ <;> refine AL.nil ?_) | refine AW.re 1 3 ?_ | refine AW.re 2 5 ?_ | refine AW.jj (fun hb => ?_) (fun hb => ?_) | refine AW.go ?_ | fail)
   all_goals try (exfalso; simp_all only [reduceCtorEq]; done)
   exact AW.retv rfl ⟨by rw [toList_beq], rfl⟩
  | false =>
   rw [cond_false]
   cases B with
   | true =>
    rw [if_pos rfl] at hB
    repeat' (first | (refine AW.r 0 ?_; (refine AL.d (AOp.box_ro (v := .st [.int .i64 k, .int .i64 ar, .str nm, strs vars, strs args, .sl (kids.map GFml.av)]) rfl rfl) ?_) <;> (refine AL.d (AOp.box_ro (v := .str s) rfl rfl) ?_) <;> refine AL.es 1 ?_ <;> refine AL.nil ?_) | refine AW.re 1 3 ?_ | (refine xS 3 1 ?_; refine AL.d (AOp.call rfl rfl hB) ?_; refine xN 7 ?_) | (refine xS 4 2 ?_; refine xN 4 ?_) | refine AW.re 5 1 ?_ | (refine xS 6 3 ?_; refine AL.d (AOp.call rfl rfl hK) ?_; refine xN 1 ?_) | refine AW.jj (fun hb => ?_) (fun hb => ?_) | refine AW.go ?_ | fail)
    all_goals try (exfalso; simp_all only [reduceCtorEq]; done)
    all_goals rw [toList_beq] at hb
    ·exact AW.retv rfl ⟨retB (by rw [hb]; rfl), rfl⟩
    ·exact AW.retv rfl ⟨by rw [hb]; rfl, rfl⟩
   | false =>
    repeat' (first | (refine AW.r 0 ?_; (refine AL.d (AOp.box_ro (v := .st [.int .i64 k, .int .i64 ar, .str nm, strs vars, strs args, .sl (kids.map GFml.av)]) rfl rfl) ?_) <;> (refine AL.d (AOp.box_ro (v := .str s) rfl rfl) ?_) <;> refine AL.es 1 ?_ <;> refine AL.nil ?_) | refine AW.re 1 3 ?_ | (refine xS 3 1 ?_; refine AL.d (AOp.call rfl rfl hB) ?_; refine xN 7 ?_) | (refine xS 4 2 ?_; refine xN 4 ?_) | (refine xS 6 3 ?_; refine AL.d (AOp.call rfl rfl hK) ?_; refine xN 1 ?_) | refine AW.jf ?_ | refine AW.jj (fun hb => ?_) (fun hb => ?_) | refine AW.go ?_ | fail)
    all_goals try (exfalso; simp_all only [reduceCtorEq]; done)
    exact AW.retv rfl ⟨rfl, rfl⟩
def ocH (s : ByteArray) : List GFml → Bool
 | [] => false
 | x :: _ => ocs s x
mutual
def ps2 (s : ByteArray) : GFml → Bool → Bool
 | ⟨k, ar, nm, vars, args, kids⟩, ev => bif k == 0 then !decide (nm = s) || ev else bif bindsB ⟨k, ar, nm, vars, args, kids⟩ && decide (nm = s) then true
  else bif k == 9 then !ocH s kids else ps2L s kids (ev != (k == 3))
def ps2L (s : ByteArray) : List GFml → Bool → Bool
 | [], _ => true
 | x :: l, ev => ps2 s x ev && ps2L s l ev
end
theorem shaped_pfp {f : GFml} (h : shapedP f = true) : f.Kind = 9 → 0 < f.Kids.length := by
 intro h8
 simp only [shapedP, shp1, bA, dT] at h
 have h1 := h.1.1.1.1.1
 rw [h8] at h1
 simp [rulesP] at h1
 omega
theorem f_positive (s : ByteArray) : ∀ (N : Nat) (f : GFml) (ev : Bool) (hN : ndF f ≤ N) (ho : f.Ok) (hs : shsF f = true), Tri Tryz.prog 172 [f.st, .str s, .bool ev] [] (D (.bool (ps2 s f ev)) []) := by
 intro N
 induction N using Nat.strongRecOn with
 | _ N ih =>
  intro f ev hN ho hs
  have hnd := ndF_eq f
  have hB := f_binds f
  rw [shsF_eq, bA] at hs
  have hp := shaped_pfp hs.2
  have hsk := hs.1
  obtain ⟨_, q6, q7⟩ := ho
  obtain ⟨k, ar, nm, vars, args, kids⟩ := f
  rw [ps2]
  unfold bindsS at hB
  generalize bindsB ⟨k, ar, nm, vars, args, kids⟩ = B at *
  generalize bindsN ⟨k, ar, nm, vars, args, kids⟩ = n at *
  simp only at *
  have hkk : (k == 9) = true → ∃ y : GFml, (kids.map GFml.av)[((0 : Int)).toNat]? = some y.st ∧ Tri Tryz.prog 192 [y.st, .str s] [] (D (.bool (ocH s kids)) []) := fun h => by
   have h8 := hp (by simpa using h)
   cases kids with
   | nil => simp at h8
   | cons y l => exact ⟨y, by simp [GFml.av_eq], f_occurs s _ y (Nat.le_refl _) (q7 y (by simp))⟩
  refine Tri.enter 61 Tryz.func172 rfl rfl rfl rfl fun Fr w0 => ?_
  repeat' (first | (refine AW.r 0 ?_; (refine AL.d (AOp.box_ro (v := .st [.int .i64 k, .int .i64 ar, .str nm, strs vars, strs args, .sl (kids.map GFml.av)]) rfl rfl) ?_) <;> refine AL.es 1 ?_ <;> refine AL.nil ?_) | refine AW.go ?_ | fail)
  cases k0 : (k == 0) with
  | true =>
   rw [cond_true]
   repeat' (first | refine AW.re 1 3 ?_ | (refine xS 2 5 ?_; ((refine AL.gx (fun hb => ?_) (fun hb => ?_) <;> refine AL.es 3 ?_)) <;> refine AL.nil ?_) | refine AW.jj (fun hb => ?_) (fun hb => ?_) | refine AW.go ?_ | fail)
   all_goals try (exfalso; simp_all only [reduceCtorEq]; done)
   all_goals refine AW.retv rfl ⟨?_, rfl⟩
   all_goals first | refine retB ?_ | refine congrArg (fun b => AEnd.ret (AV.bool b)) ?_
   all_goals (simp only [toList_beq] at *; simp_all)
  | false =>
  rw [cond_false]
  repeat' (first | refine AW.re 1 3 ?_ | (refine xS 3 1 ?_; refine AL.d (AOp.call rfl rfl hB) ?_; refine xN 7 ?_) | refine AW.jj (fun hb => ?_) (fun hb => ?_) | refine AW.go ?_ | fail)
  ·exfalso; simp_all only [reduceCtorEq]
  refine AW.cut (fun af ah => ∃ v : Bool, af = [(1, .str s), (2, .bool ev), (3, .at (.st [.int .i64 k, .int .i64 ar, .str nm, strs vars, strs args, .sl (kids.map GFml.av)])), (33, .bool v)] ∧ ah = [] ∧ v = (B && decide (nm = s))) ?_ ?_
  ·repeat' (first | (refine xS 4 2 ?_; ((refine AL.gx (fun hb => ?_) (fun hb => ?_) <;> refine AL.es 4 ?_)) <;> refine AL.nil ?_) | fail)
   all_goals refine AW.meet [1, 2, 3, 33] ⟨_, rfl, rfl, ?_⟩
   all_goals (try simp only [toList_beq] at *)
   all_goals simp_all
  rintro af ah ⟨v, rfl, rfl, hv⟩
  rw [← hv]
  clear hv hb hB
  cases v with
  | true =>
   repeat' (first | refine AW.re 5 1 ?_ | refine AW.jt ?_ | fail)
   exact AW.retv rfl ⟨rfl, rfl⟩
  | false =>
  rw [cond_false]
  cases k9 : (k == 9) with
  | true =>
   obtain ⟨y, hy1, hy2⟩ := hkk k9
   rw [cond_true]
   repeat' (first | refine AW.re 6 3 ?_ | (refine xS 7 2 ?_; refine AL.d (iX hy1) ?_; refine AL.es 2 ?_; refine AL.d (AOp.call rfl rfl hy2) ?_; refine xN 2 ?_) | refine AW.jf ?_ | refine AW.jj (fun hb => ?_) (fun hb => ?_) | refine AW.go ?_ | fail)
   all_goals try (exfalso; simp_all only [reduceCtorEq]; done)
   exact AW.retv rfl ⟨rfl, rfl⟩
  | false =>
  rw [cond_false]
  repeat' (first | refine AW.re 6 3 ?_ | refine AW.re 8 4 ?_ | refine AW.jf ?_ | refine AW.jj (fun hb => ?_) (fun hb => ?_) | refine AW.go ?_ | fail)
  ·exfalso; simp_all only [reduceCtorEq]
  clear hb
  refine AW.prune [1, 2, 3, 45, 46, 47] (AW.loop (fun mz af h => ∃ (i : Nat), i ≤ kids.length ∧ mz = kids.length - i ∧ af = [(1, .str s), (2, .bool ev), (3, .at (.st [.int .i64 k, .int .i64 ar, .str nm, strs vars, strs args, .sl (kids.map GFml.av)])), (45, .sl (kids.map GFml.av)), (46, .int .i64 (kids.map GFml.av).length), (47, .int .i64 i)] ∧ h = [] ∧ ps2L s kids (ev != (k == 3)) = ps2L s (kids.drop i) (ev != (k == 3))) kids.length ⟨0, Nat.zero_le _, rfl, rfl, rfl, rfl⟩ ?_)
  rintro mz af h ⟨i, hi, rfl, rfl, rfl, he⟩
  refine AW.seq ?_
  by_cases hlt : i < kids.length
  ·obtain ⟨x, hx⟩ := get_lt hlt
   have hx' : (kids.map GFml.av)[((i : Nat) : Int).toNat]? = some (x.st) := GFml.get hx
   have hxm := lG hx
   have hnx := ndFs_mem hxm
   have hc := ih (ndF x) (by omega) x (ev != (k == 3)) (Nat.le_refl _) (q7 x hxm) (shsFs_mem hsk hxm)
   rw [drop_cons hx, ps2L] at he
   repeat' (first | refine AW.re 9 1 ?_ | (refine AW.r 10 ?_; refine AL.d (iX hx') ?_; refine AL.es 1 ?_; refine AL.alloc_store (by kernel_rfl) rfl rfl rfl rfl ?_; refine AL.nil ?_) | (refine xS 11 6 ?_; refine AL.d AOp.bn ?_; refine AL.d (AOp.call rfl rfl hc) ?_; refine xN 1 ?_) | refine AW.re 12 1 ?_ | (refine AW.r 13 ?_; refine AL.d AOp.ad ?_; refine xN 1 ?_) | refine AW.jj (fun hb => ?_) (fun hb => ?_) | refine AW.go ?_ | fail)
   all_goals try (exfalso; simp only [dT, dF, lM] at *; omega)
   ·have h : ps2 s x (ev != (k == 3)) = false := by simpa only [Bool.not_eq_true'] using hb
    exact AW.retv rfl ⟨retB (by rw [he, h]; rfl), rfl⟩
   ·have h : ps2 s x (ev != (k == 3)) = true := by simpa only [Bool.not_eq_false'] using hb
    refine AW.again_keep (kids.length - (i + 1)) [1, 2, 3, 45, 46, 47] (by omega) ⟨i + 1, hlt, rfl, rfl, rfl, ?_⟩
    rw [he, h]; rfl
  ·rw [List.drop_eq_nil_of_le (by omega), ps2L] at he
   rw [he]
   repeat' (first | refine AW.re 9 1 ?_ | refine AW.re 14 1 ?_ | refine AW.jj (fun hb => ?_) (fun hb => ?_) | refine AW.go ?_ | fail)
   all_goals try (exfalso; simp only [dT, dF, lM] at *; omega)
   exact AW.retv rfl ⟨rfl, rfl⟩
theorem wS_ge (most : Int) : ∀ (l : List ByteArray) (a : Int), a ≤ wS most l a
 | [], a => Int.le_refl a
 | s :: l, a => by
  rw [wS]
  split
  ·have := wS_ge most l (a + (s.size : Int) / 100); omega
  ·exact Int.le_refl a
mutual
theorem wF_ge (most : Int) : ∀ (f : GFml) (a : Int), a + 1 ≤ wF most f a
 | ⟨k, ar, nm, vars, args, kids⟩, a => by
  rw [wF]
  have h1 := wS_ge most vars (a + 1 + vars.length + args.length + (nm.size : Int) / 100)
  have h2 := wS_ge most args (wS most vars (a + 1 + vars.length + args.length + (nm.size : Int) / 100))
  have h3 := wFs_ge most kids (wS most args (wS most vars (a + 1 + vars.length + args.length + (nm.size : Int) / 100)))
  omega
theorem wFs_ge (most : Int) : ∀ (l : List GFml) (a : Int), a ≤ wFs most l a
 | [], a => by rw [wFs]; exact Int.le_refl a
 | x :: l, a => by
  rw [wFs]
  split
  ·have h1 := wF_ge most x a
   have h2 := wFs_ge most l (wF most x a)
   omega
  ·exact Int.le_refl a
end
mutual
theorem wF_nd (most : Int) : ∀ (f : GFml) (a : Int), wF most f a ≤ most → a + ndF f + f.Vars.length + f.Args.length ≤ wF most f a
 | ⟨k, ar, nm, vars, args, kids⟩, a, h => by
  rw [wF] at h ⊢
  rw [ndF]
  have h1 := wS_ge most vars (a + 1 + vars.length + args.length + (nm.size : Int) / 100)
  have h2 := wS_ge most args (wS most vars (a + 1 + vars.length + args.length + (nm.size : Int) / 100))
  have h3 := wFs_nd most kids (wS most args (wS most vars (a + 1 + vars.length + args.length + (nm.size : Int) / 100))) h
  simp only
  omega
theorem wFs_nd (most : Int) : ∀ (l : List GFml) (a : Int), wFs most l a ≤ most → a + ndFs l ≤ wFs most l a
 | [], a, h => by rw [wFs, ndFs]; omega
 | x :: l, a, h => by
  rw [wFs] at h ⊢
  rw [ndFs]
  split at h
  ·rename_i hc
   rw [if_pos hc]
   have h2 := wFs_ge most l (wF most x a)
   have h1 := wF_nd most x a (by omega)
   have h3 := wFs_nd most l (wF most x a) h
   omega
  ·omega
end
theorem few_nd {most : Int} {f : GFml} (h : wFs most [f] 0 ≤ most) (h0 : 0 ≤ most) : (ndF f : Int) ≤ most := by
 have := wFs_nd most [f] 0 h
 simp only [ndFs] at this
 omega
inductive VarOk : GFml → Prop
 | mk {f : GFml} (h : f.Vars.length ≤ 1000000) (hk : ∀ x ∈ f.Kids, VarOk x) : VarOk f
mutual
def plF : GFml → Bool
 | ⟨k, _, _, _, _, kids⟩ => decide (k ≤ 7) && !plL kids
def plL : List GFml → Bool
 | [] => false
 | x :: l => !plF x || plL l
end
theorem plL_any : ∀ l : List GFml, plL l = l.any fun x => !plF x
 | [] => rfl
 | x :: l => by rw [plL, List.any_cons, plL_any l]
theorem plain1 (x : GFml) {v : Bool} (hc : Tri Tryz.prog 70 [x.st] [] (D (.bool v) [])) : Tri Tryz.prog 122 [x.st] [] (D (.bool (!v)) []) := by
 obtain ⟨k, ar, nm, vars, args, kids⟩ := x
 refine Tri.enter 6 Tryz.func122 rfl rfl rfl rfl fun Fr w0 => ?_
 repeat' (first | (refine AW.r 0 ?_; (refine AL.d (AOp.box_ro (v := .st [.int .i64 k, .int .i64 ar, .str nm, strs vars, strs args, .sl (kids.map GFml.av)]) rfl rfl) ?_) <;> refine AL.es 1 ?_ <;> refine AL.nil ?_) | (refine xS 1 1 ?_; refine AL.d (AOp.call rfl rfl hc) ?_; refine xN 2 ?_) | fail)
 exact AW.retv rfl ⟨rfl, rfl⟩
theorem n_plain : ∀ (N : Nat) (f : GFml) (hN : ndF f ≤ N) (ho : f.Ok), Tri Tryz.prog 70 [f.st] [] (D (.bool (plF f)) []) := by
 intro N
 induction N using Nat.strongRecOn with
 | _ N ih =>
  intro f hN ho
  have hnd := ndF_eq f
  obtain ⟨_, q6, q7⟩ := ho
  have hK := ContainsFunc_Fml f.Kids (by omega) 122 [] (fun x => !plF x) fun x hx => plain1 x (ih (ndF x) (by have := ndFs_mem hx; omega) x (Nat.le_refl _) (q7 x hx))
  obtain ⟨k, ar, nm, vars, args, kids⟩ := f
  rw [plF, plL_any]
  simp only at *
  generalize (kids.any fun x => !plF x) = R at *
  refine Tri.enter 12 Tryz.func70 rfl rfl rfl rfl fun Fr w0 => ?_
  repeat' (first | (refine AW.r 0 ?_; (refine AL.d (AOp.box_ro (v := .st [.int .i64 k, .int .i64 ar, .str nm, strs vars, strs args, .sl (kids.map GFml.av)]) rfl rfl) ?_) <;> refine AL.es 1 ?_ <;> refine AL.nil ?_) | (refine xS 1 4 ?_; ((refine AL.gx (fun hb => ?_) (fun hb => ?_) <;> refine AL.es 2 ?_)) <;> (first | (refine AL.gd ?_; refine AL.d (AOp.call rfl rfl hK) ?_) | refine AL.gs ?_) <;> refine AL.es 3 ?_ <;> refine AL.nil ?_) | fail)
  ·exact AW.retv rfl ⟨by rw [hb]; simp, rfl⟩
  ·exact AW.retv rfl ⟨retB (by rw [hb]; rfl), rfl⟩
mutual
def fiF : GFml → Bool
 | ⟨k, _, _, _, _, kids⟩ => !(decide (k ≥ 8) && decide (k ≤ 11)) && fiL kids
def fiL : List GFml → Bool
 | [] => true
 | x :: l => fiF x && fiL l
end
theorem ref_First : ∀ (N : Nat) (f : GFml) (hN : ndF f ≤ N) (ho : f.Ok), Tri Tryz.prog 31 [f.st] [] (D (.bool (fiF f)) []) := by
 intro N
 induction N using Nat.strongRecOn with
 | _ N ih =>
  intro f hN ho
  have hnd := ndF_eq f
  obtain ⟨_, q6, q7⟩ := ho
  obtain ⟨k, ar, nm, vars, args, kids⟩ := f
  rw [fiF]
  simp only at *
  refine Tri.enter 26 Tryz.func31 rfl rfl rfl rfl fun Fr w0 => ?_
  repeat' (first | (refine AW.r 0 ?_; (refine AL.d (AOp.box_ro (v := .st [.int .i64 k, .int .i64 ar, .str nm, strs vars, strs args, .sl (kids.map GFml.av)]) rfl rfl) ?_) <;> refine AL.es 1 ?_ <;> refine AL.nil ?_) | refine AW.go ?_ | fail)
  refine AW.cut (fun af ah => ∃ v : Bool, af = [(1, .at (.st [.int .i64 k, .int .i64 ar, .str nm, strs vars, strs args, .sl (kids.map GFml.av)])), (11, .bool v)] ∧ ah = [] ∧ v = (decide (k ≥ 8) && decide (k ≤ 11))) ?_ ?_
  ·repeat' (first | (refine xS 1 4 ?_; ((refine AL.gx (fun hb => ?_) (fun hb => ?_) <;> refine AL.es 4 ?_)) <;> refine AL.nil ?_) | fail)
   all_goals refine AW.meet [1, 11] ⟨_, rfl, rfl, ?_⟩
   all_goals (rw [hb]; simp)
  rintro af ah ⟨v, rfl, rfl, hv⟩
  rw [← hv]
  clear hv
  cases v with
  | true =>
   repeat' (first | refine AW.re 2 1 ?_ | refine AW.jt ?_ | fail)
   exact AW.retv rfl ⟨rfl, rfl⟩
  | false =>
  rw [Bool.not_false, Bool.true_and]
  repeat' (first | refine AW.re 3 1 ?_ | refine AW.jf ?_ | refine AW.go ?_ | fail)
  refine AW.prune [1, 3] (AW.loop (fun mz af h => ∃ (i : Nat), i ≤ kids.length ∧ mz = kids.length - i ∧ af = [(1, .at (.st [.int .i64 k, .int .i64 ar, .str nm, strs vars, strs args, .sl (kids.map GFml.av)])), (3, .int .i64 i)] ∧ h = [] ∧ fiL kids = fiL (kids.drop i)) kids.length ⟨0, Nat.zero_le _, rfl, rfl, rfl, rfl⟩ ?_)
  rintro mz af h ⟨i, hi, rfl, rfl, rfl, he⟩
  refine AW.seq ?_
  by_cases hlt : i < kids.length
  ·obtain ⟨x, hx⟩ := get_lt hlt
   have hx' : (kids.map GFml.av)[((i : Nat) : Int).toNat]? = some (x.st) := GFml.get hx
   have hxm := lG hx
   have hnx := ndFs_mem hxm
   have hc := ih (ndF x) (by omega) x (Nat.le_refl _) (q7 x hxm)
   rw [drop_cons hx, fiL] at he
   repeat' (first | refine AW.re 4 5 ?_ | (refine xS 6 3 ?_; refine AL.d (iX hx') ?_; refine AL.es 1 ?_; refine AL.d (AOp.call rfl rfl hc) ?_; refine xN 1 ?_) | refine AW.re 7 1 ?_ | (refine xS 5 1 ?_; refine AL.d AOp.ad ?_; refine xN 1 ?_) | refine AW.jj (fun hb => ?_) (fun hb => ?_) | refine AW.go ?_ | fail)
   all_goals try (exfalso; simp only [dT, dF, lM] at *; omega)
   ·have h : fiF x = false := by simpa using hb
    exact AW.retv rfl ⟨retB (by rw [he, h]; rfl), rfl⟩
   ·have h : fiF x = true := by simpa using hb
    refine AW.again_keep (kids.length - (i + 1)) [1, 3] (by omega) ⟨i + 1, hlt, rfl, rfl, rfl, ?_⟩
    rw [he, h]; rfl
  ·rw [List.drop_eq_nil_of_le (by omega), fiL] at he
   rw [he]
   repeat' (first | refine AW.re 4 5 ?_ | refine AW.re 8 1 ?_ | refine AW.jj (fun hb => ?_) (fun hb => ?_) | refine AW.go ?_ | fail)
   all_goals try (exfalso; simp only [dT, dF, lM] at *; omega)
   exact AW.retv rfl ⟨rfl, rfl⟩
mutual
theorem eqF_refl : ∀ f : GFml, eqF f f = true
 | ⟨k, ar, nm, vars, args, kids⟩ => by rw [eqF]; simp [eqFs_refl kids]
theorem eqFs_refl : ∀ l : List GFml, eqFs l l = true
 | [] => by simp [eqFs]
 | x :: l => by rw [eqFs, eqF_refl x, eqFs_refl l]; rfl
end
mutual
theorem fi_pl : ∀ f : GFml, shsF f = true → fiF f = plF f
 | ⟨k, ar, nm, vars, args, kids⟩, h => by
  rw [shsF, bA] at h
  rw [fiF, plF, fi_plL kids h.1]
  have hk : 0 ≤ k ∧ k ≤ 11 := by
   have h2 := h.2
   by_cases q : 0 ≤ k ∧ k ≤ 11
   ·exact q
   ·exfalso
    have e : rulesP k = ⟨1, 0, 0, 0, 0, 0, false, false, false⟩ := by
     unfold rulesP
     simp only [show ¬ k = 0 by omega, show ¬ (k = 1 ∨ k = 2) by omega, show ¬ k = 3 by omega, show ¬ (k = 4 ∨ k = 5) by omega, show ¬ (k = 6 ∨ k = 7) by omega, show ¬ (k = 8 ∨ k = 9) by omega, show ¬ k = 10 by omega, show ¬ k = 11 by omega, if_false]
    simp only [shapedP, shp1, e, bA, dT] at h2
    omega
  by_cases q : k ≤ 7
  ·rw [decide_eq_true q, decide_eq_false (show ¬ k ≥ 8 by omega)]; simp
  ·rw [decide_eq_false q, decide_eq_true (show k ≥ 8 by omega), decide_eq_true (show k ≤ 11 by omega)]; simp
theorem fi_plL : ∀ l : List GFml, shsFs l = true → fiL l = !plL l
 | [], _ => by rw [fiL, plL]; rfl
 | x :: l, h => by
  rw [shsFs, bA] at h
  rw [fiL, plL, fi_pl x h.1, fi_plL l h.2]
  cases plF x <;> simp
end
theorem shaped_kid {f : GFml} (h : shapedP f = true) (h8 : f.Kind = 8 ∨ f.Kind = 9) : f.Kids.length = 1 := by
 simp only [shapedP, shp1, bA, dT] at h
 have h1 := h.1.1.1.1.1
 have h2 := h.1.1.1.1.2
 rcases h8 with h8 | h8
 all_goals
  rw [h8] at h1 h2
  simp [rulesP] at h1 h2
  omega
theorem shaped_rel {f : GFml} (h : shapedP f = true) (h8 : f.Kind = 0) : f.Kids = [] := by
 simp only [shapedP, shp1, bA, dT] at h
 have h2 := h.1.1.1.1.2
 rw [h8] at h2
 simp [rulesP] at h2
 first | exact h2 | exact List.eq_nil_of_length_eq_zero (by omega)
structure CkS where
 n : Int
 d : Int
 bad : Bool
 F : List (ByteArray × Int)
 gF : MG
def pushE (env : ByteArray → List Int) (nm : ByteArray) (a : Int) : ByteArray → List Int := fun s => if s = nm then env s ++ [a] else env s
def psH (s : ByteArray) : List GFml → Bool
 | [] => false
 | x :: _ => ps2 s x true
mutual
def chk : GFml → Int → (ByteArray → List Int) → CkS → CkS
 | ⟨k, ar, nm, vars, args, kids⟩, lv, env, s =>
  if 4000 < s.n + 1 ∨ 60 < lv ∨ shapedP ⟨k, ar, nm, vars, args, kids⟩ = false then { s with n := s.n + 1, d := max s.d lv, bad := true }
  else if k = 0 then
   match (env nm).getLast? with
   | some a => { s with n := s.n + 1, d := max s.d lv, bad := a != args.length }
   | none => { n := s.n + 1, d := max s.d lv, bad := (match lookA s.F nm with | some a => a != args.length | none => false), F := setA s.F nm args.length, gF := gsetA s.F s.gF nm }
  else bif (chkL kids (lv + 1) (bif bindsB ⟨k, ar, nm, vars, args, kids⟩ then pushE env nm (bindsN ⟨k, ar, nm, vars, args, kids⟩) else env) { s with n := s.n + 1, d := max s.d lv }).bad then chkL kids (lv + 1) (bif bindsB ⟨k, ar, nm, vars, args, kids⟩ then pushE env nm (bindsN ⟨k, ar, nm, vars, args, kids⟩) else env) { s with n := s.n + 1, d := max s.d lv }
   else { chkL kids (lv + 1) (bif bindsB ⟨k, ar, nm, vars, args, kids⟩ then pushE env nm (bindsN ⟨k, ar, nm, vars, args, kids⟩) else env) { s with n := s.n + 1, d := max s.d lv } with bad := k == 8 && !psH nm kids }
def chkL : List GFml → Int → (ByteArray → List Int) → CkS → CkS
 | [], _, _, s => s
 | x :: l, lv, env, s => bif (chk x lv env s).bad then chk x lv env s else chkL l lv env (chk x lv env s)
end
def chk0 : CkS := ⟨0, 0, false, [], ⟨[], 0⟩⟩
mutual
def dpF : GFml → Nat
 | ⟨_, _, _, _, _, kids⟩ => 1 + dpFs kids
def dpFs : List GFml → Nat
 | [] => 0
 | x :: l => max (dpF x) (dpFs l)
end
theorem dpFs_zero : ∀ l : List GFml, dpFs l = 0 → l = []
 | [], _ => rfl
 | ⟨_, _, _, _, _, _⟩ :: l, h => by rw [dpFs, dpF] at h; omega
mutual
theorem ct_dp : ∀ (f : GFml) (lv : Nat), (ctF f lv).2 = min (dpF f) (lv + 1) ∧ (dpF f ≤ lv + 1 → (ctF f lv).1 = ndF f)
 | ⟨k, ar, nm, vars, args, kids⟩, lv => by
  rw [ctF, dpF, ndF]
  by_cases h0 : lv = 0
  ·rw [if_pos h0]; subst h0
   refine ⟨by simp only; omega, fun h => ?_⟩
   have := dpFs_zero kids (by omega)
   subst this
   rfl
  ·rw [if_neg h0]
   obtain ⟨h1, h2⟩ := ct_dps kids (lv - 1) 1 0
   refine ⟨by simp only; omega, fun h => ?_⟩
   have := h2 (by omega)
   simp only; omega
theorem ct_dps : ∀ (l : List GFml) (lv : Nat) (n d : Int), ((ctFs l lv n d).2 = max d (min (dpFs l : Int) (lv + 1)) ∨ d < 0) ∧ (dpFs l ≤ lv + 1 → (ctFs l lv n d).1 = n + ndFs l)
 | [], lv, n, d => by rw [ctFs, dpFs, ndFs]; refine ⟨?_, fun _ => by simp only; omega⟩; by_cases h : d < 0; exact .inr h; left; simp only; omega
 | x :: l, lv, n, d => by
  obtain ⟨a1, a2⟩ := ct_dp x lv
  obtain ⟨b1, b2⟩ := ct_dps l lv (n + (ctF x lv).1) (max d (ctF x lv).2)
  rw [ctFs, dpFs, ndFs]
  refine ⟨?_, fun h => ?_⟩
  ·rcases b1 with b1 | b1
   ·left; rw [b1]; omega
   ·omega
  ·rw [b2 (by omega), a2 (by omega)]; omega
end
mutual
theorem ps_part (s : ByteArray) : ∀ (f : GFml) (odd : Bool), posF s f odd true = !ocs s f
 | ⟨k, ar, nm, vars, args, kids⟩, odd => by
  rw [posF, ocs]
  cases (k == 0) with
  | true => simp
  | false =>
   rw [cond_false, cond_false]
   cases (bindsB ⟨k, ar, nm, vars, args, kids⟩ && decide (nm = s)) with
   | true => simp
   | false => rw [cond_false, cond_false, Bool.true_or, ps_partL s kids]
theorem ps_partL (s : ByteArray) : ∀ (l : List GFml) (odd : Bool), posFs s l odd true = !ocsL s l
 | [], odd => by rw [posFs, ocsL]; rfl
 | x :: l, odd => by rw [posFs, ocsL, ps_part s x, ps_partL s l, Bool.not_or]
end
mutual
theorem ps_pos (s : ByteArray) : ∀ (f : GFml) (ev : Bool), shsF f = true → ps2 s f ev = posF s f (!ev) false
 | ⟨k, ar, nm, vars, args, kids⟩, ev, h => by
  rw [shsF, bA] at h
  rw [ps2, posF]
  cases k0 : (k == 0) with
  | true => simp
  | false =>
   rw [cond_false, cond_false]
   cases (bindsB ⟨k, ar, nm, vars, args, kids⟩ && decide (nm = s)) with
   | true => simp
   | false =>
    rw [cond_false, cond_false, Bool.false_or]
    cases k9 : (k == 9) with
    | true =>
     have hl := shaped_kid h.2 (.inr (by simpa using k9))
     match kids, hl with
     | [y], _ =>
      rw [cond_true, ocH, posFs, posFs, ps_part, Bool.and_true]
    | false =>
     rw [cond_false, ps_posL s kids _ h.1]
     cases (k == 3) <;> cases ev <;> rfl
theorem ps_posL (s : ByteArray) : ∀ (l : List GFml) (ev : Bool), shsFs l = true → ps2L s l ev = posFs s l (!ev) false
 | [], ev, h => by rw [ps2L, posFs]
 | x :: l, ev, h => by
  rw [shsFs, bA] at h
  rw [ps2L, posFs, ps_pos s x ev h.1, ps_posL s l ev h.2]
end
theorem psH_posH (s : ByteArray) (l : List GFml) (h : shsFs l = true) : psH s l = posH s l := by
 cases l with
 | nil => rfl
 | cons x l =>
  rw [shsFs, bA] at h
  rw [psH, posH, ps_pos s x true h.1]; rfl
mutual
theorem ocF_app : ∀ (f : GFml) (bd : List ByteArray) (out : List GSym), ocF f bd out = out ++ ocF f bd []
 | ⟨k, ar, nm, vars, args, kids⟩, bd, out => by
  rw [ocF, ocF]
  cases (k == 0 && !(bd.any fun x => decide (x = nm))) with
  | true => simp
  | false => rw [cond_false, cond_false, ocFs_app kids]
theorem ocFs_app : ∀ (l : List GFml) (bd : List ByteArray) (out : List GSym), ocFs l bd out = out ++ ocFs l bd []
 | [], bd, out => by simp [ocFs]
 | x :: l, bd, out => by rw [ocFs, ocFs, ocFs_app l bd (ocF x bd out), ocFs_app l bd (ocF x bd []), ocF_app x bd out, List.append_assoc]
end
def insOk (F : List (ByteArray × Int)) (o : GSym) : Bool := match lookA F o.Name with | some a => a == o.Arity | none => true
def insF : List GSym → List (ByteArray × Int) → Option (List (ByteArray × Int))
 | [], F => some F
 | o :: l, F => bif insOk F o then insF l (setA F o.Name o.Arity) else none
theorem insF_app : ∀ (a b : List GSym) (F : List (ByteArray × Int)), insF (a ++ b) F = (insF a F).bind (insF b)
 | [], b, F => rfl
 | o :: a, b, F => by
  rw [List.cons_append, insF, insF]
  cases insOk F o with
  | true => rw [cond_true, cond_true, insF_app a b]
  | false => rfl
theorem look_set (F : List (ByteArray × Int)) (k k' : ByteArray) (v : Int) : lookA (setA F k v) k' = if k' = k then some v else lookA F k' := by
 induction F with
 | nil => simp only [setA, lookA]
 | cons p F ih =>
  obtain ⟨q, u⟩ := p
  rw [setA]
  by_cases e : k = q
  ·subst e; rw [if_pos rfl]; simp only [lookA]; split <;> rfl
  ·rw [if_neg e]; simp only [lookA, ih]
   by_cases e2 : k' = q
   ·rw [if_pos e2, if_pos e2, if_neg (fun h => e (h.symm.trans e2))]
   ·rw [if_neg e2, if_neg e2]
theorem insF_pair : ∀ (l pre : List GSym) (F : List (ByteArray × Int)), (∀ y ∈ pre, lookA F y.Name = some y.Arity) → (∀ n a, lookA F n = some a → ∃ y ∈ pre, y.Name = n) → (insF l F).isSome = pairG pre l
 | [], pre, F, h1, h2 => rfl
 | o :: l, pre, F, h1, h2 => by
  rw [insF, pairG]
  have e : (pre.all fun y => !clashB o y) = insOk F o := by
   rw [Bool.eq_iff_iff, List.all_eq_true]
   unfold insOk clashB
   constructor
   ·intro h
    cases hl : lookA F o.Name with
    | none => rfl
    | some a =>
     obtain ⟨y, hy, hn⟩ := h2 _ _ hl
     have h3 := h y hy
     have h4 := h1 y hy
     rw [hn, hl] at h4
     obtain rfl := Option.some.inj h4
     simpa [hn] using h3
   ·intro h y hy
    have h4 := h1 y hy
    by_cases hn : y.Name = o.Name
    ·rw [hn] at h4
     rw [h4] at h
     simp only at h
     simp [hn] ; simpa using h
    ·simp [hn]
  rw [e]
  cases hi : insOk F o with
  | false => rfl
  | true =>
   rw [cond_true, Bool.true_and]
   refine insF_pair l (pre ++ [o]) _ (fun y hy => ?_) (fun n a h => ?_)
   ·rw [look_set]
    rcases List.mem_append.1 hy with hy | hy
    ·have h4 := h1 y hy
     by_cases hn : y.Name = o.Name
     ·rw [if_pos hn]
      rw [hn] at h4
      unfold insOk at hi
      rw [h4] at hi
      simp only [beq_iff_eq] at hi
      rw [hi]
     ·rw [if_neg hn]; exact h4
    ·simp only [List.mem_singleton] at hy; subst hy; rw [if_pos rfl]
   ·rw [look_set] at h
    by_cases hn : n = o.Name
    ·exact ⟨o, by simp, hn.symm⟩
    ·rw [if_neg hn] at h
     obtain ⟨y, hy, e⟩ := h2 _ _ h
     exact ⟨y, by simp [hy], e⟩
theorem arAt_snoc (s : ByteArray) (b : List GSym) (o : GSym) : arAt s (b ++ [o]) (b ++ [o]).length = if o.Name = s then some o.Arity else arAt s b b.length := by
 have key : ∀ k, k ≤ b.length → arAt s (b ++ [o]) k = arAt s b k := by
  intro k
  induction k with
  | zero => intro _; rfl
  | succ k ih =>
   intro hk
   rw [arAt, arAt, List.getElem?_append_left (by omega), ih (by omega)]
 rw [lA, List.length_singleton, arAt, List.getElem?_append_right (Nat.le_refl _), Nat.sub_self]
 simp only [List.getElem?_cons_zero]
 rw [key _ (Nat.le_refl _)]
def EnvRel (env : ByteArray → List Int) (bs : List GSym) (bd : List ByteArray) : Prop := (∀ n, (env n).getLast? = arAt n bs bs.length) ∧ ∀ n, (env n).getLast?.isSome = bd.any (fun x => decide (x = n))
theorem EnvRel.push {env : ByteArray → List Int} {bs : List GSym} {bd : List ByteArray} (h : EnvRel env bs bd) (nm : ByteArray) (a : Int) : EnvRel (pushE env nm a) (bs ++ [⟨nm, a⟩]) (bd ++ [nm]) := by
 refine ⟨fun n => ?_, fun n => ?_⟩
 ·rw [arAt_snoc]
  simp only [pushE]
  by_cases e : n = nm
  ·subst e; simp
  ·rw [if_neg e, if_neg (fun h => e h.symm), h.1]
 ·rw [List.any_append]
  simp only [pushE]
  by_cases e : n = nm
  ·subst e; simp
  ·rw [if_neg e, h.2]; simp [fun h : nm = n => e h.symm]; intro h; exact (e h.symm).elim
def ChkSpec (r s : CkS) (c : Prop) (nd : Nat) (oc : List GSym) : Prop := (r.bad = false ↔ c ∧ (insF oc s.F).isSome = true) ∧ (r.bad = false → r.n = s.n + nd ∧ insF oc s.F = some r.F)
mutual
theorem chk_spec : ∀ (f : GFml) (lv : Int) (env : ByteArray → List Int) (s : CkS) (bs : List GSym) (bd : List ByteArray), s.bad = false → EnvRel env bs bd →
  ChkSpec (chk f lv env s) s (s.n + ndF f ≤ 4000 ∧ lv + dpF f ≤ 61 ∧ shsF f = true ∧ arF f bs = true ∧ grF f = true) (ndF f) (ocF f bd [])
 | ⟨k, ar, nm, vars, args, kids⟩, lv, env, s, bs, bd, hb, hE => by
  unfold ChkSpec
  rw [chk, ndF, dpF, shsF, arF, grF, ocF]
  by_cases h0 : 4000 < s.n + 1 ∨ 60 < lv ∨ shapedP ⟨k, ar, nm, vars, args, kids⟩ = false
  ·rw [if_pos h0]
   refine ⟨⟨fun h => by simp at h, fun h => ?_⟩, fun h => by simp at h⟩
   obtain ⟨⟨h1, h2, h3, _⟩, _⟩ := h
   rw [bA] at h3
   rcases h0 with h0 | h0 | h0
   ·omega
   ·omega
   ·rw [h3.2] at h0; cases h0
  ·rw [if_neg h0]
   have hs : shapedP ⟨k, ar, nm, vars, args, kids⟩ = true := by
    cases h : shapedP ⟨k, ar, nm, vars, args, kids⟩ with
    | true => rfl
    | false => exact (h0 (.inr (.inr h))).elim
   have h1 : s.n + 1 ≤ 4000 := by omega
   have h2 : lv ≤ 60 := by omega
   rw [hs, Bool.and_true]
   by_cases k0 : k = 0
   ·obtain rfl : kids = [] := shaped_rel hs k0
    subst k0
    rw [if_pos rfl]
    have e0 : ((0 : Int) == 0) = true := rfl
    have e8 : ((0 : Int) == 8) = false := rfl
    have hl := hE.2 nm
    rw [hE.1] at hl
    rw [e0, e8, cond_true, Bool.true_and, ← hl, hE.1]
    cases hA : arAt nm bs bs.length with
    | some a =>
     simp only [Option.isSome_some, Bool.not_true, cond_false, ocFs, insF, arR, ndFs, dpFs, shsFs, grFs]
     refine ⟨⟨fun h => ⟨⟨by omega, by omega, trivial, by simpa using h, by simp⟩, trivial⟩, fun h => ?_⟩, fun h => ⟨by simp, trivial⟩⟩
     simpa using h.1.2.2.2.1
    | none =>
     simp only [Option.isSome_none, Bool.not_false, cond_true, List.nil_append, arR, insF, ndFs, dpFs, shsFs, grFs, insOk]
     cases hf : lookA s.F nm with
     | none =>
      simp only [cond_true]
      refine ⟨⟨fun h => ⟨⟨by omega, by omega, trivial, trivial, by simp⟩, by simp⟩, fun h => trivial⟩, fun h => ⟨by simp, trivial⟩⟩
     | some a =>
      simp only
      cases he : (a == (args.length : Int)) with
      | true =>
       have he' : (a != (args.length : Int)) = false := by simp [bne, he]
       refine ⟨⟨fun h => ⟨⟨by omega, by omega, trivial, trivial, by simp⟩, by simp [he]⟩, fun h => he'⟩, fun h => ⟨by simp, by simp [he]⟩⟩
      | false =>
       have he' : (a != (args.length : Int)) = true := by simp [bne, he]
       refine ⟨⟨fun h => ?_, fun h => by simp at h⟩, fun h => ?_⟩
       ·rw [he'] at h; cases h
       ·rw [he'] at h; cases h
   ·rw [if_neg k0]
    have e0 : (k == 0) = false := by simpa using k0
    rw [e0, cond_false, Bool.false_and, cond_false]
    generalize hN : bindsN ⟨k, ar, nm, vars, args, kids⟩ = nA
    have hE2 : EnvRel (bif bindsB ⟨k, ar, nm, vars, args, kids⟩ then pushE env nm nA else env) (bif bindsB ⟨k, ar, nm, vars, args, kids⟩ then bs ++ [⟨nm, nA⟩] else bs) (bif bindsB ⟨k, ar, nm, vars, args, kids⟩ then bd ++ [nm] else bd) := by
     cases bindsB ⟨k, ar, nm, vars, args, kids⟩ with
     | true => exact hE.push nm nA
     | false => exact hE
    generalize (bif bindsB ⟨k, ar, nm, vars, args, kids⟩ then pushE env nm nA else env) = env2 at *
    generalize (bif bindsB ⟨k, ar, nm, vars, args, kids⟩ then bs ++ [⟨nm, nA⟩] else bs) = bs2 at *
    generalize (bif bindsB ⟨k, ar, nm, vars, args, kids⟩ then bd ++ [nm] else bd) = bd2 at *
    have hK := chkL_spec kids (lv + 1) env2 { s with n := s.n + 1, d := max s.d lv } bs2 bd2 hb (by omega) h1 hE2
    generalize chkL kids (lv + 1) env2 { s with n := s.n + 1, d := max s.d lv } = r at *
    obtain ⟨hK1, hK2⟩ := hK
    simp only at hK1 hK2
    cases hr : r.bad with
    | true =>
     rw [cond_true]
     rw [hr] at hK1
     refine ⟨⟨fun h => (by rw [hr] at h; cases h), fun h => ?_⟩, fun h => (by rw [hr] at h; cases h)⟩
     obtain ⟨⟨g1, g2, g3, g4, g5⟩, g6⟩ := h
     rw [bA] at g5
     have := hK1.2 ⟨⟨by omega, by omega, g3, g4, g5.2⟩, g6⟩
     cases this
    | false =>
     rw [cond_false]
     obtain ⟨⟨g1, g2, g3, g4, g5⟩, g6⟩ := hK1.1 hr
     obtain ⟨g7, g8⟩ := hK2 hr
     rw [psH_posH _ _ g3]
     cases hp : (k == 8 && !posH nm kids) with
     | true => exact ⟨⟨fun h => by simp at h, fun h => by simp at h⟩, fun h => by simp at h⟩
     | false => exact ⟨⟨fun _ => ⟨⟨by omega, by omega, g3, g4, by rw [g5]; rfl⟩, g6⟩, fun _ => rfl⟩, fun _ => ⟨by simp only; omega, g8⟩⟩
theorem chkL_spec : ∀ (l : List GFml) (lv : Int) (env : ByteArray → List Int) (s : CkS) (bs : List GSym) (bd : List ByteArray), s.bad = false → lv ≤ 61 → s.n ≤ 4000 → EnvRel env bs bd →
  ChkSpec (chkL l lv env s) s (s.n + ndFs l ≤ 4000 ∧ lv + dpFs l ≤ 61 ∧ shsFs l = true ∧ arFs l bs = true ∧ grFs l = true) (ndFs l) (ocFs l bd [])
 | [], lv, env, s, bs, bd, hb, h1, h2, hE => by
  unfold ChkSpec
  rw [chkL, ndFs, dpFs, shsFs, arFs, grFs, ocFs]
  exact ⟨⟨fun _ => ⟨⟨by omega, by omega, rfl, rfl, rfl⟩, rfl⟩, fun _ => hb⟩, fun _ => ⟨by omega, by simp [insF]⟩⟩
 | x :: l, lv, env, s, bs, bd, hb, h1, h2, hE => by
  unfold ChkSpec
  rw [chkL, ndFs, dpFs, shsFs, arFs, grFs, ocFs, ocFs_app, insF_app]
  obtain ⟨a1, a2⟩ := chk_spec x lv env s bs bd hb hE
  cases hr : (chk x lv env s).bad with
  | true =>
   rw [cond_true]
   refine ⟨⟨fun h => (by rw [hr] at h; cases h), fun h => ?_⟩, fun h => (by rw [hr] at h; cases h)⟩
   obtain ⟨⟨g1, g2, g3, g4, g5⟩, g6⟩ := h
   rw [bA] at g3 g4 g5
   rw [hr] at a1
   have := a1.2 ⟨⟨by omega, by omega, g3.1, g4.1, g5.1⟩, by
    cases hq : insF (ocF x bd []) s.F with
    | none => rw [hq] at g6; simp at g6
    | some _ => rfl⟩
   cases this
  | false =>
   rw [cond_false]
   obtain ⟨⟨g1, g2, g3, g4, g5⟩, g6⟩ := a1.1 hr
   obtain ⟨g7, g8⟩ := a2 hr
   obtain ⟨b1, b2⟩ := chkL_spec l lv env (chk x lv env s) bs bd hr h1 (by omega) hE
   rw [g8, g3, g4, g5, Bool.true_and, Bool.true_and, Bool.true_and, Option.bind_some]
   refine ⟨b1.trans ⟨fun h => ?_, fun h => ?_⟩, fun h => ?_⟩
   ·obtain ⟨⟨q1, q2, q3⟩, q4⟩ := h
    exact ⟨⟨by omega, by omega, q3⟩, q4⟩
   ·obtain ⟨⟨q1, q2, q3⟩, q4⟩ := h
    exact ⟨⟨by omega, by omega, q3⟩, q4⟩
   ·obtain ⟨q1, q2⟩ := b2 h
    exact ⟨by omega, q2⟩
end
theorem chk_valid (f : GFml) : (chk f 1 (fun _ => []) chk0).bad = !validF f := by
 obtain ⟨h, _⟩ := chk_spec f 1 (fun _ => []) chk0 [] [] rfl ⟨fun _ => rfl, fun _ => rfl⟩
 have hp := insF_pair (ocF f [] []) [] [] (by simp) (by simp [lookA])
 obtain ⟨c1, c2⟩ := ct_dp f 61
 have e : (chk f 1 (fun _ => []) chk0).bad = false ↔ validF f = true := by
  rw [h]
  unfold validF
  simp only [bA, dT]
  show (_ ∧ (insF (ocF f [] []) []).isSome = true) ↔ _
  rw [hp]
  have e0 : chk0.n = 0 := rfl
  constructor
  ·rintro ⟨⟨q1, q2, q3, q4, q5⟩, q6⟩
   exact ⟨⟨⟨⟨⟨by rw [c2 (by omega)]; omega, by omega⟩, q3⟩, q4⟩, q5⟩, q6⟩
  ·rintro ⟨⟨⟨⟨⟨q1, q2⟩, q3⟩, q4⟩, q5⟩, q6⟩
   rw [c2 (by omega)] at q1
   exact ⟨⟨by omega, by omega, q3, q4, q5⟩, q6⟩
 cases hv : validF f with
 | true => exact e.2 hv
 | false =>
  cases hq : (chk f 1 (fun _ => []) chk0).bad with
  | true => rfl
  | false => rw [e.1 hq] at hv; cases hv
theorem shaped_not1 {f : GFml} (h : shapedP f = true) (h8 : f.Kind = 3) : f.Kids.length = 1 ∧ f.Vars.length = 0 := by
 simp only [shapedP, shp1, shp3, bA, dT] at h
 have h1 := h.1.1.1.1.1
 have h2 := h.1.1.1.1.2
 have h3 := h.2.1.2.1.2
 rw [h8] at h1 h2 h3
 simp [rulesP] at h1 h2 h3
 exact ⟨by omega, by rw [h3]; rfl⟩
def qk (k : Int) : Bool := k == 4 || k == 5 || k == 6 || k == 7
def oth (k : Int) : Int := if k ≤ 5 then 9 - k else 13 - k
mutual
def nnF : GFml → Bool → GFml
 | ⟨k, ar, nm, vars, args, kids⟩, nt =>
  bif k == 3 then nnH kids (!nt)
  else bif qk k then ⟨bif nt then oth k else k, ar, nm, vars, args, nnL kids nt⟩
  else bif nt then ⟨3, 0, empB, [], [], [⟨k, ar, nm, vars, args, nnL kids false⟩]⟩ else ⟨k, ar, nm, vars, args, nnL kids false⟩
def nnH : List GFml → Bool → GFml
 | [], _ => ⟨0, 0, empB, [], [], []⟩
 | x :: _, nt => nnF x nt
def nnL : List GFml → Bool → List GFml
 | [], _ => []
 | x :: l, nt => nnF x nt :: nnL l nt
end
theorem nnL_map (nt : Bool) : ∀ l : List GFml, nnL l nt = l.map fun x => nnF x nt
 | [] => by rw [nnL]; rfl
 | x :: l => by rw [nnL, nnL_map nt l]; rfl
mutual
theorem nn_nd : ∀ (f : GFml) (nt : Bool), ndF (nnF f nt) ≤ 2 * ndF f
 | ⟨k, ar, nm, vars, args, kids⟩, nt => by
  rw [nnF]
  cases k == 3 with
  | true => have := nn_ndH kids (!nt); rw [cond_true, ndF]; omega
  | false =>
   rw [cond_false]
   cases qk k with
   | true => have := nn_ndL kids nt; rw [cond_true, ndF, ndF]; omega
   | false =>
    have := nn_ndL kids false
    cases nt with
    | true => rw [cond_false, cond_true, ndF, ndFs, ndF, ndFs, ndF]; omega
    | false => rw [cond_false, cond_false, ndF, ndF]; omega
theorem nn_ndH : ∀ (l : List GFml) (nt : Bool), ndF (nnH l nt) ≤ 2 * ndFs l + 1
 | [], nt => by rw [nnH, ndF, ndFs]; omega
 | x :: l, nt => by have := nn_nd x nt; rw [nnH, ndFs]; omega
theorem nn_ndL : ∀ (l : List GFml) (nt : Bool), ndFs (nnL l nt) ≤ 2 * ndFs l
 | [], nt => by rw [nnL, ndFs]; omega
 | x :: l, nt => by
  have := nn_nd x nt
  have := nn_ndL l nt
  rw [nnL, ndFs, ndFs]; omega
end
theorem nnL_len (nt : Bool) (l : List GFml) : (nnL l nt).length = l.length := by rw [nnL_map, lM]
theorem lenOk_nil {α : Type} (n : Nat) (bd : α → Prop) : lenOk n bd [] := ⟨by simp, by simp⟩
theorem iOk_small {k : Int} (h : -100 ≤ k ∧ k ≤ 100) : iOk k := by
 show (decide (IntKind.i64.min ≤ k) && decide (k ≤ IntKind.i64.max)) = true
 have h1 : IntKind.i64.min = -9223372036854775808 := rfl
 have h2 : IntKind.i64.max = 9223372036854775807 := rfl
 rw [h1, h2]
 simp only [bA, dT]; omega
mutual
theorem nn_ok : ∀ (f : GFml) (nt : Bool), f.Ok → (nnF f nt).Ok
 | ⟨k, ar, nm, vars, args, kids⟩, nt, h => by
  obtain ⟨⟨h1, h2, h3, h4, h5⟩, h6, h7⟩ := h
  have hE : strOk empB := by show (0 : Nat) ≤ _; omega
  rw [nnF]
  cases k == 3 with
  | true => rw [cond_true]; exact nn_okH kids (!nt) h7
  | false =>
   rw [cond_false]
   cases hq : qk k with
   | true =>
    rw [cond_true]
    refine .mk ⟨?_, h2, h3, h4, h5⟩ (by simp only [nnL_len]; exact h6) (nn_okL kids nt h7)
    cases nt with
    | false => exact h1
    | true =>
     simp only [qk, Bool.or_eq_true, beq_iff_eq] at hq
     refine iOk_small ?_
     simp only [oth, cond_true]
     split <;> omega
   | false =>
    have hk : GFml.Ok ⟨k, ar, nm, vars, args, nnL kids false⟩ := .mk ⟨h1, h2, h3, h4, h5⟩ (by simp only [nnL_len]; exact h6) (nn_okL kids false h7)
    cases nt with
    | false => exact hk
    | true =>
     exact .mk ⟨rfl, rfl, hE, lenOk_nil _ _, lenOk_nil _ _⟩ (by show 1 * 104 ≤ _; omega) (fun x hx => by rw [List.mem_singleton.1 hx]; exact hk)
theorem nn_okH : ∀ (l : List GFml) (nt : Bool), (∀ x ∈ l, x.Ok) → (nnH l nt).Ok
 | [], nt, h => .mk ⟨rfl, rfl, by show (0 : Nat) ≤ _; omega, lenOk_nil _ _, lenOk_nil _ _⟩ (by show 0 * 104 ≤ _; omega) (fun x hx => by cases hx)
 | x :: l, nt, h => by rw [nnH]; exact nn_ok x nt (h x (by simp))
theorem nn_okL : ∀ (l : List GFml) (nt : Bool), (∀ x ∈ l, x.Ok) → ∀ y ∈ nnL l nt, y.Ok
 | [], nt, h, y, hy => by rw [nnL] at hy; cases hy
 | x :: l, nt, h, y, hy => by
  rw [nnL] at hy
  rcases List.mem_cons.1 hy with rfl | hy
  ·exact nn_ok x nt (h x (by simp))
  ·exact nn_okL l nt (fun z hz => h z (by simp [hz])) y hy
end
def ckBox (s : CkS) (mb mf : Nat) : AV := .st [.int .i64 s.n, .int .i64 s.d, .map mb, .map mf, .bool s.bad]
def ckH (b mb mf : Nat) (s : CkS) (A : List (ByteArray × Stk)) (gA : MG) : AH := .box b (ckBox s mb mf) :: .map mb (kvW Stk.av A) gA :: .map mf (kvW iav s.F) s.gF :: rowsA A
theorem walk_defer (b mb mf rc rn : Nat) (s : CkS) (A : List (ByteArray × Stk)) (gA : MG) (nm : ByteArray) (t : Stk) (hl : lookA A nm = some t) (L : List Int) (a : Int) (ht : t.l = L ++ [a]) (hLb : L.length ≤ 1000000) :
  TriD Tryz.prog 171 [.ref rc 0, .ref rn 0] (.box rn (.str nm) :: .box rc (.ref b 0) :: ckH b mb mf s A gA) .returning
   (fun u' h => u' = .returning ∧ ∃ A', (∀ k, envA A' k = if k = nm then L else envA A k) ∧ h = .box rn (.str nm) :: .box rc (.ref b 0) :: ckH b mb mf s A' gA) := by
 obtain ⟨tb, tl, tt⟩ := t
 simp only at ht
 subst ht
 have hset : (gsetA A gA nm) = gA := by unfold gsetA; rw [hl]; rfl
 obtain ⟨j, hj1, hj2⟩ := setA_hit hl
 have hrows : rowsA (setA A nm ⟨tb, L, iav a :: tt⟩) = rowsA A := by
  rw [hj2, rowsA_set]
  have h := rowsA_get hj1
  have e : (⟨tb, L, iav a :: tt⟩ : Stk).row = (⟨tb, L ++ [a], tt⟩ : Stk).row := by simp [Stk.row]
  rw [e]
  obtain ⟨hlt, he⟩ := List.getElem?_eq_some_iff.1 h
  rw [← he, List.set_getElem_self]
 have hv : (⟨tb, L, iav a :: tt⟩ : Stk).av = .osl tb L.length (L.length + 1 + tt.length) := by simp [Stk.av]; omega
 have hc : ((L ++ [a]).map iav).length + tt.length = L.length + 1 + tt.length := by simp
 refine TriD.enter 22 Tryz.func171 rfl rfl rfl rfl fun Fr w0 => ?_
 repeat' (first | (refine AW.dl 0 20 ?_; refine AQ.p rfl (AOp.ll 1) ?_; refine AQ.es 1 ?_; refine AQ.p rfl (AOp.fr 2) ?_; refine AQ.p rfl (AOp.ll 2) ?_; refine AQ.p rfl (AOp.ll 0) ?_; refine AQ.p rfl (AOp.ll 1) ?_; refine AQ.es 1 ?_; refine AQ.p rfl (AOp.fr 2) ?_; refine AQ.p rfl (AOp.ll 2) ?_; refine AQ.p rfl (AOp.ll 0) ?_; refine AQ.p rfl (AOp.lookS_hit (ok := false) 3 52 (g := Stk.av) hl rfl rfl rfl (by kernel_rfl)) ?_; refine AQ.p rfl (AOp.ll 1) ?_; refine AQ.es 1 ?_; refine AQ.p rfl (AOp.fr 2) ?_; refine AQ.p rfl (AOp.ll 2) ?_; refine AQ.p rfl (AOp.ll 0) ?_; refine AQ.p rfl (AOp.lookS_hit (ok := false) 3 52 (g := Stk.av) hl rfl rfl rfl (by kernel_rfl)) ?_; refine AQ.es 1 ?_; ((refine AQ.p rfl (AOp.sub rfl rfl (by simp only [lM, lA, List.length_singleton]; omega)) ?_)) <;> refine AQ.p rfl (AOp.cut_osl (sz := 1) (h := L.length) (by kernel_rfl) rfl (bndIs.some (n := L.length) rfl (by simp)) (by simp; omega)) ?_ <;> refine AQ.nil ?_ <;> refine AL.setS 3 52 Stk.av (⟨tb, L, iav a :: tt⟩ : Stk) rfl rfl rfl (by rw [hv, ← hc]; rfl) (by kernel_rfl) ?_ <;> refine AL.nil ?_) | fail)
 refine AW.donev rfl ⟨⟨_, rfl⟩, setA A nm ⟨tb, L, iav a :: tt⟩, fun k => ?_, ?_⟩
 ·simp only [envA, look_setA]
  by_cases e : k = nm
  ·rw [if_pos e, if_pos e]
  ·rw [if_neg e, if_neg e]
 ·show [_, _, _, _, _] ++ rowsA A = _
  unfold ckH
  rw [hrows, hset]
  rfl
mutual
theorem chk_n : ∀ (f : GFml) (lv : Int) (env : ByteArray → List Int) (s : CkS), s.bad = false → s.n ≤ 4000 → s.n ≤ (chk f lv env s).n ∧ ((chk f lv env s).bad = false → (chk f lv env s).n ≤ 4000 ∧ shsF f = true)
 | ⟨k, ar, nm, vars, args, kids⟩, lv, env, s, hb, hn => by
  rw [chk, shsF]
  by_cases h0 : 4000 < s.n + 1 ∨ 60 < lv ∨ shapedP ⟨k, ar, nm, vars, args, kids⟩ = false
  ·rw [if_pos h0]; exact ⟨by simp only; omega, fun h => by cases h⟩
  ·rw [if_neg h0]
   have hs : shapedP ⟨k, ar, nm, vars, args, kids⟩ = true := by
    cases h : shapedP ⟨k, ar, nm, vars, args, kids⟩ with
    | true => rfl
    | false => exact (h0 (.inr (.inr h))).elim
   rw [hs]
   by_cases k0 : k = 0
   ·obtain rfl : kids = [] := shaped_rel hs k0
    rw [if_pos k0, shsFs]
    split <;> exact ⟨by simp only; omega, fun h => ⟨by simp only; omega, rfl⟩⟩
   ·rw [if_neg k0]
    have h := chkL_n kids (lv + 1) (bif bindsB ⟨k, ar, nm, vars, args, kids⟩ then pushE env nm (bindsN ⟨k, ar, nm, vars, args, kids⟩) else env) { s with n := s.n + 1, d := max s.d lv } hb (by simp only; omega)
    generalize chkL kids (lv + 1) (bif bindsB ⟨k, ar, nm, vars, args, kids⟩ then pushE env nm (bindsN ⟨k, ar, nm, vars, args, kids⟩) else env) { s with n := s.n + 1, d := max s.d lv } = r at *
    obtain ⟨h1, h2⟩ := h
    simp only at h1
    cases hr : r.bad with
    | true => rw [cond_true]; exact ⟨by omega, fun h => by rw [hr] at h; cases h⟩
    | false =>
     obtain ⟨h3, h4⟩ := h2 hr
     rw [cond_false]; exact ⟨by simp only; omega, fun _ => ⟨h3, by rw [h4]; rfl⟩⟩
theorem chkL_n : ∀ (l : List GFml) (lv : Int) (env : ByteArray → List Int) (s : CkS), s.bad = false → s.n ≤ 4000 → s.n ≤ (chkL l lv env s).n ∧ ((chkL l lv env s).bad = false → (chkL l lv env s).n ≤ 4000 ∧ shsFs l = true)
 | [], lv, env, s, hb, hn => by rw [chkL, shsFs]; exact ⟨Int.le_refl _, fun _ => ⟨hn, rfl⟩⟩
 | x :: l, lv, env, s, hb, hn => by
  rw [chkL, shsFs]
  obtain ⟨h1, h2⟩ := chk_n x lv env s hb hn
  cases hr : (chk x lv env s).bad with
  | true => rw [cond_true]; exact ⟨h1, fun h => by rw [hr] at h; cases h⟩
  | false =>
   obtain ⟨h3, h4⟩ := h2 hr
   obtain ⟨h5, h6⟩ := chkL_n l lv env (chk x lv env s) hr h3
   rw [cond_false]
   exact ⟨by omega, fun h => ⟨(h6 h).1, by rw [h4, (h6 h).2]; rfl⟩⟩
end
theorem perm_erase {α : Type} : ∀ {l : List α} {j : Nat} {x : α}, l[j]? = some x → l.Perm (x :: l.eraseIdx j)
 | [], j, x, h => by simp at h
 | y :: l, 0, x, h => by simp at h; subst h; exact List.Perm.refl _
 | y :: l, j + 1, x, h => by
  simp only [List.getElem?_cons_succ] at h
  exact ((perm_erase h).cons y).trans (.swap _ _ _)
theorem perm_set {α : Type} : ∀ {l : List α} {j : Nat} {x : α} (y : α), l[j]? = some x → (y :: l.eraseIdx j).Perm (l.set j y)
 | [], j, x, y, h => by simp at h
 | z :: l, 0, x, y, h => by simp
 | z :: l, j + 1, x, y, h => by
  simp only [List.getElem?_cons_succ] at h
  exact (List.Perm.swap _ _ _).trans ((perm_set y h).cons z)
theorem perm7 {a b x y z f : Own} {E S : AH} (h : (b :: E).Perm S) : (a :: b :: x :: y :: z :: f :: E).Perm (x :: y :: z :: a :: f :: S) :=
 (((List.perm_middle (l₁ := [x, y, z, f]) (l₂ := E) (a := b)).symm.cons a).trans (List.perm_middle (l₁ := [x, y, z]) (l₂ := f :: b :: E) (a := a)).symm).trans (((((h.cons f).cons a).cons z).cons y).cons x)
def fin (k : Int) (nm : ByteArray) (kids : List GFml) (r : CkS) : CkS := bif r.bad then r else { r with bad := k == 8 && !psH nm kids }
theorem chk_fin (k ar : Int) (nm : ByteArray) (vars args : List ByteArray) (kids : List GFml) (lv : Int) (env : ByteArray → List Int) (s : CkS) (h1 : s.n + 1 ≤ 4000) (h2 : lv ≤ 60) (h3 : shapedP ⟨k, ar, nm, vars, args, kids⟩ = true) (k0 : ¬ k = 0) :
  chk ⟨k, ar, nm, vars, args, kids⟩ lv env s = fin k nm kids (chkL kids (lv + 1) (bif bindsB ⟨k, ar, nm, vars, args, kids⟩ then pushE env nm (bindsN ⟨k, ar, nm, vars, args, kids⟩) else env) { s with n := s.n + 1, d := max s.d lv }) := by
 rw [chk, if_neg (by rw [h3]; rintro (h | h | h) <;> first | omega | cases h | fail), if_neg k0]
 rfl
end Go.Proofs.YtlpndgodkkndnaaGreatDoor
