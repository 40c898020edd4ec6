/- What the functions reckon, as plain words. No statement of the seat is proved here; no condition. -/
import Derived.Test.YtjfdamiilndgeaaTy
namespace Go.Proofs.Ytjfdamiilndgeaa

/-- sectors.New -/
def sectors_New (np0 : Int) : Option ((Option sectors_Store) × Int) :=
  br (decide (np0 < (1 : Int)))
  (some ((none : Option sectors_Store), (2 : Int)))
  (br (decide (np0 > (4096 : Int)))
  (some ((none : Option sectors_Store), (2 : Int)))
  (chk (decide (0 ≤ np0 ∧ np0 ≤ np0 ∧ (512 : Int) * np0 ≤ 140737488355328)) <|
  some ((some (sectors_Store.mk (List.replicate np0.toNat Sec.z) ([] : List (Int × Sec)))), (0 : Int))))

/-- blk.ranged -/
def blk_ranged (tp0 : UInt32) : Option Bool :=
  br (tp0 == (11 : UInt32))
  (some true)
  (some (tp0 == (13 : UInt32)))

/-- blk.Check -/
def blk_Check (rp0 : Req) : Option Int :=
  br (decide ((len rp0.Ranges) > (16 : Int)))
  (some (2 : Int))
  (br (decide ((len rp0.Ranges) > (0 : Int)))
  (ob (blk_ranged rp0.Type_) fun ranged1 =>
  br ((!ranged1))
  (some (2 : Int))
  (br (decide ((len rp0.Data) > (0 : Int)))
  (some (2 : Int))
  (br (decide (rp0.Room < (0 : Int)))
  (some (2 : Int))
  (some (0 : Int)))))
  (br (decide (rp0.Room < (0 : Int)))
  (some (2 : Int))
  (some (0 : Int))))

def blk_wordL1B (np2 : Int) (L1 : (List UInt8) → UInt64 → Int → Option (List UInt8)) (b1 : List UInt8) (v2 : UInt64) (x1 : Int) : Option (List UInt8) :=
  br (decide (x1 < np2))
  (chk (fits b1.length [v2.toUInt8].length 1) <|
  L1 (b1 ++ [v2.toUInt8]) (shr64 v2 ((8 : UInt64).toNat)) (wi (x1 + (1 : Int))))
  (some b1)

def blk_wordL1 (np2 : Int) : Nat → (List UInt8) → UInt64 → Int → Option (List UInt8)
  | 0, _, _, _ => none
  | nf + 1, b1, v2, x1 => blk_wordL1B np2 (blk_wordL1 np2 nf) b1 v2 x1

/-- blk.word -/
def blk_word (b : List UInt8) (vp1 : UInt64) (np2 : Int) : Option (List UInt8) :=
  blk_wordL1 np2 fuel b vp1 (0 : Int)

def blk_BytesL1B (rp0 : Req) (L1 : (List UInt8) → Int → Option ((List UInt8) × Int)) (b2 : List UInt8) (x1 : Int) : Option ((List UInt8) × Int) :=
  br (decide (x1 < (len rp0.Ranges)))
  (ob (ix rp0.Ranges x1) fun r1 =>
  ob (blk_word b2 r1.Sector (8 : Int)) fun word4 =>
  ob (blk_word word4 r1.Count.toUInt64 (4 : Int)) fun word5 =>
  ob (blk_word word5 r1.Flags.toUInt64 (4 : Int)) fun word6 =>
  L1 word6 (wi (x1 + (1 : Int))))
  (some (b2, (0 : Int)))

def blk_BytesL1 (rp0 : Req) : Nat → (List UInt8) → Int → Option ((List UInt8) × Int)
  | 0, _, _ => none
  | nf + 1, b2, x1 => blk_BytesL1B rp0 (blk_BytesL1 rp0 nf) b2 x1

/-- blk.Bytes -/
def blk_Bytes (rp0 : Req) : Option ((List UInt8) × Int) :=
  ob (blk_Check rp0) fun check1 =>
  br (check1 != (0 : Int))
  (some (([] : List UInt8), check1))
  (ob (blk_word ([] : List UInt8) rp0.Type_.toUInt64 (4 : Int)) fun word1 =>
  ob (blk_word word1 (0 : UInt64) (4 : Int)) fun word2 =>
  ob (blk_word word2 rp0.Sector (8 : Int)) fun word3 =>
  chk (fits word3.length rp0.Data.length 1) <|
  blk_BytesL1 rp0 fuel (word3 ++ rp0.Data) (0 : Int))

def blk_numberL1B (b : List UInt8) (L1 : UInt64 → Int → Option UInt64) (v1 : UInt64) (i1 : Int) : Option UInt64 :=
  br (decide (i1 ≥ (0 : Int)))
  (ob (ix b i1) fun y1 =>
  L1 ((shl64 v1 ((8 : UInt64).toNat)) ||| y1.toUInt64) (wi (i1 - (1 : Int))))
  (some v1)

def blk_numberL1 (b : List UInt8) : Nat → UInt64 → Int → Option UInt64
  | 0, _, _ => none
  | nf + 1, v1, i1 => blk_numberL1B b (blk_numberL1 b nf) v1 i1

/-- blk.number -/
def blk_number (b : List UInt8) : Option UInt64 :=
  blk_numberL1 b fuel (0 : UInt64) (wi ((len b) - (1 : Int)))

/-- blk.Read -/
def blk_Read (b : List UInt8) : Option (Req × Int) :=
  br (decide ((len b) < (16 : Int)))
  (some ((Req.mk (0 : UInt32) (0 : UInt64) ([] : List UInt8) (0 : Int) ([] : List Range)), (2 : Int)))
  (chk (decide (0 ≤ (0 : Int) ∧ (0 : Int) ≤ (4 : Int) ∧ (4 : Int) ≤ len b)) <|
  ob (blk_number (sub b (0 : Int) (4 : Int))) fun number1 =>
  chk (decide (0 ≤ (8 : Int) ∧ (8 : Int) ≤ (16 : Int) ∧ (16 : Int) ≤ len b)) <|
  ob (blk_number (sub b (8 : Int) (16 : Int))) fun number2 =>
  chk (decide (0 ≤ (16 : Int) ∧ (16 : Int) ≤ (len b) ∧ (len b) ≤ len b)) <|
  chk (fits ([] : List UInt8).length (sub b (16 : Int) (len b)).length 1) <|
  some ((Req.mk number1.toUInt32 number2 (sub b (16 : Int) (len b)) (0 : Int) ([] : List Range)), (0 : Int)))

/-- (blk.kind).does -/
def blk_kind_does (kp0 : UInt32) : Option Nat :=
  br (kp0 == (0 : UInt32))
  (some (38 : Nat))
  (br (kp0 == (1 : UInt32))
  (some (39 : Nat))
  (br (kp0 == (4 : UInt32))
  (some (40 : Nat))
  (br (kp0 == (8 : UInt32))
  (some (41 : Nat))
  (br (kp0 == (11 : UInt32))
  (some (42 : Nat))
  (br (kp0 == (13 : UInt32))
  (some (44 : Nat))
  (some (45 : Nat)))))))

/-- (*sectors.Store).Has -/
def sectors_Store_Has (sp0 : sectors_Store) (atp1 : UInt64) (np2 : UInt64) : Option Bool :=
  br (decide (atp1 ≤ (u64 (len sp0.l))))
  (some (decide (np2 ≤ ((u64 (len sp0.l)) - atp1))))
  (some false)

def sectors_Store_ReadL1B (atp1 : UInt64) (np2 : Int) (L1 : (List Sec) → (List (Int × Sec)) → (List UInt8) → Int → Option ((List UInt8) × Int × sectors_Store)) (l1 : List Sec) (map1 : List (Int × Sec)) (out1 : List UInt8) (x1 : Int) : Option ((List UInt8) × Int × sectors_Store) :=
  br (decide (x1 < np2))
  (ob (ix l1 (wi ((i64 atp1) + x1))) fun s1 =>
  chk (fits out1.length s1.l.length 1) <|
  L1 l1 map1 (out1 ++ s1.l) (wi (x1 + (1 : Int))))
  (some (out1, (0 : Int), (sectors_Store.mk l1 map1)))

def sectors_Store_ReadL1 (atp1 : UInt64) (np2 : Int) : Nat → (List Sec) → (List (Int × Sec)) → (List UInt8) → Int → Option ((List UInt8) × Int × sectors_Store)
  | 0, _, _, _, _ => none
  | nf + 1, l1, map1, out1, x1 => sectors_Store_ReadL1B atp1 np2 (sectors_Store_ReadL1 atp1 np2 nf) l1 map1 out1 x1

/-- (*sectors.Store).Read -/
def sectors_Store_Read (sp0 : sectors_Store) (atp1 : UInt64) (np2 : Int) : Option ((List UInt8) × Int × sectors_Store) :=
  br (decide (np2 < (0 : Int)))
  (some (([] : List UInt8), (2 : Int), sp0))
  (ob (sectors_Store_Has sp0 atp1 (u64 np2)) fun has1 =>
  br ((!has1))
  (some (([] : List UInt8), (5 : Int), sp0))
  (sectors_Store_ReadL1 atp1 np2 fuel sp0.l sp0.fresh [] (0 : Int)))

/-- (*blk.work).in -/
def blk_work_in (wp0 : blk_work) (wp0_s : sectors_Store) : Option ((List UInt8) × UInt8 × sectors_Store) :=
  br ((wp0.room % (512 : UInt64)) != (0 : UInt64))
  (some (([] : List UInt8), (1 : UInt8), wp0_s))
  (ob (sectors_Store_Has wp0_s wp0.at_ (wp0.room / (512 : UInt64))) fun has1 =>
  br ((!has1))
  (some (([] : List UInt8), (1 : UInt8), wp0_s))
  (ob (sectors_Store_Read wp0_s wp0.at_ (i64 (wp0.room / (512 : UInt64)))) fun read1 =>
  some (read1.1, (0 : UInt8), read1.2.2)))

/-- feat.Has -/
def feat_Has (set : UInt64) (bit : Int) : Option Bool :=
  br (decide (bit ≥ (0 : Int)))
  (br (decide (bit ≤ (63 : Int)))
  (chk (decide (0 ≤ bit)) <|
  some (((shr64 set bit.toNat) &&& (1 : UInt64)) == (1 : UInt64)))
  (some false))
  (some false)

def sectors_Store_putJ1 (np1 : Int) (l1 : List Sec) (map1 : List (Int × Sec)) (m1 : Sec) : Option sectors_Store :=
  ob (ix l1 np1) fun s1 =>
  some (sectors_Store.mk (l1.set np1.toNat m1) map1)

/-- (*sectors.Store).put -/
def sectors_Store_put (sp0 : sectors_Store) (np1 : Int) (arg2 : Sec) : Option sectors_Store :=
  br ((!(mhas np1 sp0.fresh)))
  (ob (ix sp0.l np1) fun s2 =>
  sectors_Store_putJ1 np1 sp0.l (mput np1 s2 sp0.fresh) arg2)
  (sectors_Store_putJ1 np1 sp0.l sp0.fresh arg2)

def sectors_Store_WriteL1B (atp1 : UInt64) (b : List UInt8) (L1 : (List Sec) → (List (Int × Sec)) → Int → Option (Int × sectors_Store)) (l1 : List Sec) (map1 : List (Int × Sec)) (x1 : Int) : Option (Int × sectors_Store) :=
  br (decide (x1 < (quoi (len b) (512 : Int))))
  (chk (decide (0 ≤ (wi (x1 * (512 : Int))) ∧ (wi (x1 * (512 : Int))) ≤ (wi ((wi (x1 + (1 : Int))) * (512 : Int))) ∧ (wi ((wi (x1 + (1 : Int))) * (512 : Int))) ≤ len b)) <|
  chk (Nat.ble 512 (sub b (wi (x1 * (512 : Int))) (wi ((wi (x1 + (1 : Int))) * (512 : Int)))).length) <|
  ob (Sec.of ((sub b (wi (x1 * (512 : Int))) (wi ((wi (x1 + (1 : Int))) * (512 : Int)))).take 512)) fun a1 =>
  ob (sectors_Store_put (sectors_Store.mk l1 map1) (wi ((i64 atp1) + x1)) a1) fun put1 =>
  L1 put1.l put1.fresh (wi (x1 + (1 : Int))))
  (some ((0 : Int), (sectors_Store.mk l1 map1)))

def sectors_Store_WriteL1 (atp1 : UInt64) (b : List UInt8) : Nat → (List Sec) → (List (Int × Sec)) → Int → Option (Int × sectors_Store)
  | 0, _, _, _ => none
  | nf + 1, l1, map1, x1 => sectors_Store_WriteL1B atp1 b (sectors_Store_WriteL1 atp1 b nf) l1 map1 x1

/-- (*sectors.Store).Write -/
def sectors_Store_Write (sp0 : sectors_Store) (atp1 : UInt64) (b : List UInt8) : Option (Int × sectors_Store) :=
  br ((remi (len b) (512 : Int)) != (0 : Int))
  (some ((2 : Int), sp0))
  (ob (sectors_Store_Has sp0 atp1 (u64 (quoi (len b) (512 : Int)))) fun has1 =>
  br ((!has1))
  (some ((5 : Int), sp0))
  (sectors_Store_WriteL1 atp1 b fuel sp0.l sp0.fresh (0 : Int)))

/-- (*blk.work).out -/
def blk_work_out (wp0 : blk_work) (wp0_s : sectors_Store) : Option ((List UInt8) × UInt8 × sectors_Store) :=
  ob (feat_Has wp0.feats (5 : Int)) fun has1 =>
  br (has1)
  (some (([] : List UInt8), (1 : UInt8), wp0_s))
  (ob (sectors_Store_Write wp0_s wp0.at_ wp0.data) fun write1 =>
  br (write1.1 != (0 : Int))
  (some (([] : List UInt8), (1 : UInt8), write1.2))
  (some (([] : List UInt8), (0 : UInt8), write1.2)))

/-- (*sectors.Store).Flush -/
def sectors_Store_Flush (sp0 : sectors_Store) : Option (Int × sectors_Store) :=
  some ((0 : Int), (sectors_Store.mk sp0.l ([] : List (Int × Sec))))

/-- (*blk.work).sync -/
def blk_work_sync (wp0 : blk_work) (wp0_s : sectors_Store) : Option ((List UInt8) × UInt8 × sectors_Store) :=
  ob (feat_Has wp0.feats (9 : Int)) fun has1 =>
  br ((!has1))
  (some (([] : List UInt8), (2 : UInt8), wp0_s))
  (ob (sectors_Store_Flush wp0_s) fun flush1 =>
  some (([] : List UInt8), (0 : UInt8), flush1.2))

/-- (*blk.work).id -/
def blk_work_id (wp0 : blk_work) (wp0_s : sectors_Store) : Option ((List UInt8) × UInt8) :=
  br (decide (wp0.room < (20 : UInt64)))
  (some (([] : List UInt8), (1 : UInt8)))
  (chk (decide (0 ≤ (20 : Int) ∧ (20 : Int) ≤ (20 : Int) ∧ (1 : Int) * (20 : Int) ≤ 140737488355328)) <|
  some (copyStr (List.replicate (20 : Int).toNat (0 : UInt8)) wp0.name, (0 : UInt8)))

/-- (*blk.work).ranges$1 -/
def blk_work_ranges_1 (arg0 : List UInt8) : Option (UInt64 × UInt64 × UInt64 × Bool × (List UInt8)) :=
  br (decide ((len arg0) < (16 : Int)))
  (some ((0 : UInt64), (0 : UInt64), (0 : UInt64), false, arg0))
  (chk (decide (0 ≤ (0 : Int) ∧ (0 : Int) ≤ (8 : Int) ∧ (8 : Int) ≤ len arg0)) <|
  ob (blk_number (sub arg0 (0 : Int) (8 : Int))) fun number1 =>
  chk (decide (0 ≤ (8 : Int) ∧ (8 : Int) ≤ (12 : Int) ∧ (12 : Int) ≤ len arg0)) <|
  ob (blk_number (sub arg0 (8 : Int) (12 : Int))) fun number2 =>
  chk (decide (0 ≤ (12 : Int) ∧ (12 : Int) ≤ (16 : Int) ∧ (16 : Int) ≤ len arg0)) <|
  ob (blk_number (sub arg0 (12 : Int) (16 : Int))) fun number3 =>
  chk (decide (0 ≤ (16 : Int) ∧ (16 : Int) ≤ (len arg0) ∧ (len arg0) ≤ len arg0)) <|
  some (number1, number2, number3, true, sub arg0 (16 : Int) (len arg0)))

def sectors_Store_ZeroL1B (atp1 : UInt64) (np2 : UInt64) (L1 : (List Sec) → (List (Int × Sec)) → Int → Option (Int × sectors_Store)) (l1 : List Sec) (map1 : List (Int × Sec)) (x1 : Int) : Option (Int × sectors_Store) :=
  br (decide (x1 < (i64 np2)))
  (ob (sectors_Store_put (sectors_Store.mk l1 map1) (wi ((i64 atp1) + x1)) Sec.z) fun put1 =>
  L1 put1.l put1.fresh (wi (x1 + (1 : Int))))
  (some ((0 : Int), (sectors_Store.mk l1 map1)))

def sectors_Store_ZeroL1 (atp1 : UInt64) (np2 : UInt64) : Nat → (List Sec) → (List (Int × Sec)) → Int → Option (Int × sectors_Store)
  | 0, _, _, _ => none
  | nf + 1, l1, map1, x1 => sectors_Store_ZeroL1B atp1 np2 (sectors_Store_ZeroL1 atp1 np2 nf) l1 map1 x1

/-- (*sectors.Store).Zero -/
def sectors_Store_Zero (sp0 : sectors_Store) (atp1 : UInt64) (np2 : UInt64) : Option (Int × sectors_Store) :=
  ob (sectors_Store_Has sp0 atp1 np2) fun has1 =>
  br ((!has1))
  (some ((5 : Int), sp0))
  (sectors_Store_ZeroL1 atp1 np2 fuel sp0.l sp0.fresh (0 : Int))

def blk_work_rangesL3B  (L3 : (List Sec) → (List (Int × Sec)) → (List UInt8) → UInt64 → UInt64 → Bool → Option ((List UInt8) × UInt8 × sectors_Store)) (l2 : List Sec) (map2 : List (Int × Sec)) (m2 : List UInt8) (at2 : UInt64) (n2 : UInt64) (ok2 : Bool) : Option ((List UInt8) × UInt8 × sectors_Store) :=
  br (ok2)
  (ob (sectors_Store_Zero (sectors_Store.mk l2 map2) at2 n2) fun zero1 =>
  ob (blk_work_ranges_1 m2) fun ranges5 =>
  L3 zero1.2.l zero1.2.fresh ranges5.2.2.2.2 ranges5.1 ranges5.2.1 ranges5.2.2.2.1)
  (some (([] : List UInt8), (0 : UInt8), (sectors_Store.mk l2 map2)))

def blk_work_rangesL3  : Nat → (List Sec) → (List (Int × Sec)) → (List UInt8) → UInt64 → UInt64 → Bool → Option ((List UInt8) × UInt8 × sectors_Store)
  | 0, _, _, _, _, _, _ => none
  | nf + 1, l2, map2, m2, at2, n2, ok2 => blk_work_rangesL3B (blk_work_rangesL3 nf) l2 map2 m2 at2 n2 ok2

def blk_work_rangesL2B (wp0 : blk_work) (flags : UInt64) (L2 : (List Sec) → (List (Int × Sec)) → (List UInt8) → Bool → UInt64 → UInt64 → UInt64 → Bool → Option ((List UInt8) × UInt8 × sectors_Store)) (l1 : List Sec) (map1 : List (Int × Sec)) (m1 : List UInt8) (odd1 : Bool) (at1 : UInt64) (n1 : UInt64) (f1 : UInt64) (ok1 : Bool) : Option ((List UInt8) × UInt8 × sectors_Store) :=
  br (ok1)
  (ob (sectors_Store_Has (sectors_Store.mk l1 map1) at1 n1) fun has3 =>
  br ((!has3))
  (some (([] : List UInt8), (1 : UInt8), (sectors_Store.mk l1 map1)))
  (br (odd1)
  (ob (blk_work_ranges_1 m1) fun ranges2 =>
  L2 l1 map1 ranges2.2.2.2.2 true ranges2.1 ranges2.2.1 ranges2.2.2.1 ranges2.2.2.2.1)
  (ob (blk_work_ranges_1 m1) fun ranges3 =>
  L2 l1 map1 ranges3.2.2.2.2 ((f1 &&& ~~~flags) != (0 : UInt64)) ranges3.1 ranges3.2.1 ranges3.2.2.1 ranges3.2.2.2.1)))
  (br (odd1)
  (some (([] : List UInt8), (2 : UInt8), (sectors_Store.mk l1 map1)))
  (ob (blk_work_ranges_1 wp0.data) fun ranges4 =>
  blk_work_rangesL3 fuel l1 map1 ranges4.2.2.2.2 ranges4.1 ranges4.2.1 ranges4.2.2.2.1))

def blk_work_rangesL2 (wp0 : blk_work) (flags : UInt64) : Nat → (List Sec) → (List (Int × Sec)) → (List UInt8) → Bool → UInt64 → UInt64 → UInt64 → Bool → Option ((List UInt8) × UInt8 × sectors_Store)
  | 0, _, _, _, _, _, _, _, _ => none
  | nf + 1, l1, map1, m1, odd1, at1, n1, f1, ok1 => blk_work_rangesL2B wp0 flags (blk_work_rangesL2 wp0 flags nf) l1 map1 m1 odd1 at1 n1 f1 ok1

def blk_work_rangesJ1 (wp0 : blk_work) (wp0_s : sectors_Store) (flags : UInt64) (x1 : Bool) : Option ((List UInt8) × UInt8 × sectors_Store) :=
  br (x1)
  (some (([] : List UInt8), (1 : UInt8), wp0_s))
  (ob (blk_work_ranges_1 wp0.data) fun ranges1 =>
  blk_work_rangesL2 wp0 flags fuel wp0_s.l wp0_s.fresh ranges1.2.2.2.2 false ranges1.1 ranges1.2.1 ranges1.2.2.1 ranges1.2.2.2.1)

/-- (*blk.work).ranges -/
def blk_work_ranges (wp0 : blk_work) (wp0_s : sectors_Store) (bit : Int) (flags : UInt64) : Option ((List UInt8) × UInt8 × sectors_Store) :=
  ob (feat_Has wp0.feats bit) fun has1 =>
  br ((!has1))
  (some (([] : List UInt8), (2 : UInt8), wp0_s))
  (ob (feat_Has wp0.feats (5 : Int)) fun has2 =>
  br (has2)
  (blk_work_rangesJ1 wp0 wp0_s flags has2)
  (br ((len wp0.data) == (0 : Int))
  (blk_work_rangesJ1 wp0 wp0_s flags ((len wp0.data) == (0 : Int)))
  (br ((remi (len wp0.data) (16 : Int)) != (0 : Int))
  (blk_work_rangesJ1 wp0 wp0_s flags ((remi (len wp0.data) (16 : Int)) != (0 : Int)))
  (blk_work_rangesJ1 wp0 wp0_s flags (decide ((len wp0.data) > (256 : Int)))))))

/-- (blk.kind).does$1 -/
def blk_kind_does_1 (wp0 : blk_work) (wp0_s : sectors_Store) : Option ((List UInt8) × UInt8 × sectors_Store) :=
  ob (blk_work_ranges wp0 wp0_s (13 : Int) (0 : UInt64)) fun ranges1 =>
  some (ranges1.1, ranges1.2.1, ranges1.2.2)

/-- (blk.kind).does$2 -/
def blk_kind_does_2 (wp0 : blk_work) (wp0_s : sectors_Store) : Option ((List UInt8) × UInt8 × sectors_Store) :=
  ob (blk_work_ranges wp0 wp0_s (14 : Int) (1 : UInt64)) fun ranges1 =>
  some (ranges1.1, ranges1.2.1, ranges1.2.2)

/-- (blk.kind).does$3 -/
def blk_kind_does_3 (arg0 : blk_work) (arg0_s : sectors_Store) : Option ((List UInt8) × UInt8) :=
  some (([] : List UInt8), (2 : UInt8))

/-- blk.Apply -/
def blk_Apply (sp0 : sectors_Store) (feats : UInt64) (name : List UInt8) (rp3 : Req) : Option ((List UInt8) × UInt8 × Int × sectors_Store) :=
  ob (blk_Bytes rp3) fun bytes1 =>
  br (bytes1.2 != (0 : Int))
  (some (([] : List UInt8), (0 : UInt8), bytes1.2, sp0))
  (ob (blk_kind_does rp3.Type_) fun does1 =>
  chk (decide (0 ≤ (16 : Int) ∧ (16 : Int) ≤ (len bytes1.1) ∧ (len bytes1.1) ≤ len bytes1.1)) <|
  br (does1 == 38)
  (ob (blk_work_in (blk_work.mk feats name (sub bytes1.1 (16 : Int) (len bytes1.1)) rp3.Sector (u64 rp3.Room)) sp0) fun in1 =>
  some (in1.1, in1.2.1, (0 : Int), in1.2.2))
  (br (does1 == 39)
  (ob (blk_work_out (blk_work.mk feats name (sub bytes1.1 (16 : Int) (len bytes1.1)) rp3.Sector (u64 rp3.Room)) sp0) fun out1 =>
  some (out1.1, out1.2.1, (0 : Int), out1.2.2))
  (br (does1 == 40)
  (ob (blk_work_sync (blk_work.mk feats name (sub bytes1.1 (16 : Int) (len bytes1.1)) rp3.Sector (u64 rp3.Room)) sp0) fun sync1 =>
  some (sync1.1, sync1.2.1, (0 : Int), sync1.2.2))
  (br (does1 == 41)
  (ob (blk_work_id (blk_work.mk feats name (sub bytes1.1 (16 : Int) (len bytes1.1)) rp3.Sector (u64 rp3.Room)) sp0) fun id1 =>
  some (id1.1, id1.2, (0 : Int), sp0))
  (br (does1 == 42)
  (ob (blk_kind_does_1 (blk_work.mk feats name (sub bytes1.1 (16 : Int) (len bytes1.1)) rp3.Sector (u64 rp3.Room)) sp0) fun does2 =>
  some (does2.1, does2.2.1, (0 : Int), does2.2.2))
  (br (does1 == 44)
  (ob (blk_kind_does_2 (blk_work.mk feats name (sub bytes1.1 (16 : Int) (len bytes1.1)) rp3.Sector (u64 rp3.Room)) sp0) fun does3 =>
  some (does3.1, does3.2.1, (0 : Int), does3.2.2))
  (chk (does1 == 45) <|
  ob (blk_kind_does_3 (blk_work.mk feats name (sub bytes1.1 (16 : Int) (len bytes1.1)) rp3.Sector (u64 rp3.Room)) sp0) fun does4 =>
  some (does4.1, does4.2, (0 : Int), sp0))))))))

/-- dumbwaiterlaw21.lives -/
def law21zlives  : Option Bool :=
  ob (sectors_New (8 : Int)) fun new1 =>
  onO new1.1
  (none)
  (fun store1 =>
  br (new1.2 != (0 : Int))
  (some false)
  (ob (blk_Apply store1 (4294992384 : UInt64) ([120] : List UInt8) (Req.mk (0 : UInt32) (7 : UInt64) ([] : List UInt8) (512 : Int) ([] : List Range))) fun apply1 =>
  ob (blk_Apply apply1.2.2.2 (4294992384 : UInt64) ([120] : List UInt8) (Req.mk (0 : UInt32) (8 : UInt64) ([] : List UInt8) (512 : Int) ([] : List Range))) fun apply2 =>
  ob (blk_Apply apply2.2.2.2 (4294992384 : UInt64) ([120] : List UInt8) (Req.mk (4 : UInt32) (0 : UInt64) ([] : List UInt8) (0 : Int) ([] : List Range))) fun apply3 =>
  chk (decide (0 ≤ (100 : Int) ∧ (100 : Int) ≤ (100 : Int) ∧ (1 : Int) * (100 : Int) ≤ 140737488355328)) <|
  lt (List.replicate (100 : Int).toNat (0 : UInt8)) fun z1 =>
  ob (blk_Apply apply3.2.2.2 (4294992384 : UInt64) ([120] : List UInt8) (Req.mk (1 : UInt32) (0 : UInt64) z1 (0 : Int) ([] : List Range))) fun apply4 =>
  ob (blk_Apply apply4.2.2.2 (4294992384 : UInt64) ([120] : List UInt8) (Req.mk (5 : UInt32) (0 : UInt64) ([] : List UInt8) (0 : Int) ([] : List Range))) fun apply5 =>
  br (apply1.2.2.1 == (0 : Int))
  (br (apply2.2.2.1 == (0 : Int))
  (br ((len apply1.1) == (512 : Int))
  (br (apply1.2.1 == (0 : UInt8))
  (br ((len apply2.1) == (0 : Int))
  (br (apply2.2.1 == (1 : UInt8))
  (br (apply3.2.1 == (0 : UInt8))
  (br (apply4.2.1 == (1 : UInt8))
  (some (apply5.2.1 == (2 : UInt8)))
  (some false))
  (some false))
  (some false))
  (some false))
  (some false))
  (some false))
  (some false))
  (some false)))

/-- dumbwaiterkit.LightReq -/
def kit_LightReq (rp0 : Req) (most : Int) : Option Bool :=
  br (decide ((len rp0.Data) ≤ most))
  (br (decide ((len rp0.Ranges) ≤ (40 : Int)))
  (some (decide (rp0.Room ≤ most)))
  (some false))
  (some false)

/-- dumbwaiterkit.Own -/
def kit_Own (b : List UInt8) : Option (List UInt8) :=
  chk (fits ([] : List UInt8).length b.length 1) <|
  some b

def sectors_OfL1B (b : List UInt8) (store1 : sectors_Store) (L1 : (List Sec) → (List (Int × Sec)) → Int → Option ((Option sectors_Store) × Int)) (l1 : List Sec) (map1 : List (Int × Sec)) (x1 : Int) : Option ((Option sectors_Store) × Int) :=
  br (decide (x1 < (len store1.l)))
  (ob (ix l1 x1) fun s1 =>
  chk (decide (0 ≤ (wi (x1 * (512 : Int))) ∧ (wi (x1 * (512 : Int))) ≤ (len b) ∧ (len b) ≤ len b)) <|
  L1 (l1.set (Int.toNat x1) (Sec.put s1 (sub b (wi (x1 * (512 : Int))) (len b)))) map1 (wi (x1 + (1 : Int))))
  (some ((some (sectors_Store.mk l1 map1)), (0 : Int)))

def sectors_OfL1 (b : List UInt8) (store1 : sectors_Store) : Nat → (List Sec) → (List (Int × Sec)) → Int → Option ((Option sectors_Store) × Int)
  | 0, _, _, _ => none
  | nf + 1, l1, map1, x1 => sectors_OfL1B b store1 (sectors_OfL1 b store1 nf) l1 map1 x1

/-- sectors.Of -/
def sectors_Of (b : List UInt8) : Option ((Option sectors_Store) × Int) :=
  br ((remi (len b) (512 : Int)) != (0 : Int))
  (some ((none : Option sectors_Store), (2 : Int)))
  (ob (sectors_New (quoi (len b) (512 : Int))) fun new1 =>
  onO new1.1
  (chk (new1.2 != (0 : Int)) <|
  some ((none : Option sectors_Store), new1.2))
  (fun store1 =>
  br (new1.2 != (0 : Int))
  (some ((none : Option sectors_Store), new1.2))
  (sectors_OfL1 b store1 fuel store1.l store1.fresh (0 : Int))))

/-- (*sectors.Store).Count -/
def sectors_Store_Count (sp0 : sectors_Store) : Option Int :=
  some (len sp0.l)

/-- (*sectors.Store).Image -/
def sectors_Store_Image (sp0 : sectors_Store) : Option ((List UInt8) × sectors_Store) :=
  ob (sectors_Store_Count sp0) fun count1 =>
  ob (sectors_Store_Read sp0 (0 : UInt64) count1) fun read1 =>
  some (read1.1, read1.2.2)

def law21zcutJ2 (i1 : Int) (L1 : Seg → (List Seg) → Int → Option (List Seg)) (m2 : Seg) (out2 : List Seg) : Option (List Seg) :=
  L1 m2 out2 (wi (i1 + (1 : Int)))

def law21zcutJ3 (i1 : Int) (L1 : Seg → (List Seg) → Int → Option (List Seg)) (m3 : Seg) (out3 : List Seg) : Option (List Seg) :=
  law21zcutJ2 i1 L1 m3 out3

def law21zcutL1B (cuts : List Int) (L1 : Seg → (List Seg) → Int → Option (List Seg)) (m1 : Seg) (out1 : List Seg) (i1 : Int) : Option (List Seg) :=
  br (decide (i1 < (len cuts)))
  (ob (ix cuts i1) fun y1 =>
  br (decide (y1 > (0 : Int)))
  (ob (ix cuts i1) fun y2 =>
  br (decide (y2 < (i32 m1.Len)))
  (ob (ix cuts i1) fun y3 =>
  chk (fits out1.length [(Seg.mk m1.At (u32 y3) m1.Write)].length 16) <|
  ob (ix cuts i1) fun y4 =>
  ob (ix cuts i1) fun y5 =>
  law21zcutJ3 i1 L1 (Seg.mk (m1.At + (u64 y4)) (m1.Len - (u32 y5)) m1.Write) (out1 ++ [(Seg.mk m1.At (u32 y3) m1.Write)]))
  (law21zcutJ3 i1 L1 m1 out1))
  (law21zcutJ2 i1 L1 m1 out1))
  (chk (fits out1.length [m1].length 16) <|
  some (out1 ++ [m1]))

def law21zcutL1 (cuts : List Int) : Nat → Seg → (List Seg) → Int → Option (List Seg)
  | 0, _, _, _ => none
  | nf + 1, m1, out1, i1 => law21zcutL1B cuts (law21zcutL1 cuts nf) m1 out1 i1

/-- dumbwaiterlaw21.cut -/
def law21zcut (arg0 : Seg) (cuts : List Int) : Option (List Seg) :=
  law21zcutL1 cuts fuel arg0 [] (0 : Int)

def gmem_CheckL1B (l : List Region) (L1 : UInt64 → Int → Option Int) (room1 : UInt64) (x1 : Int) : Option Int :=
  br (decide (x1 < (len l)))
  (ob (ix l x1) fun r1 =>
  br (decide (r1.Len < (1 : UInt64)))
  (some (2 : Int))
  (br (decide (r1.Len > room1))
  (some (2 : Int))
  (br (decide ((r1.Len - (1 : UInt64)) > ((18446744073709551615 : UInt64) - r1.At)))
  (some (2 : Int))
  (br (decide (x1 > (0 : Int)))
  (ob (ix l (wi (x1 - (1 : Int)))) fun r2 =>
  br (decide (r1.At ≤ r2.At))
  (some (2 : Int))
  (br (decide ((r1.At - r2.At) < r2.Len))
  (some (2 : Int))
  (L1 (room1 - r1.Len) (wi (x1 + (1 : Int))))))
  (L1 (room1 - r1.Len) (wi (x1 + (1 : Int))))))))
  (some (0 : Int))

def gmem_CheckL1 (l : List Region) : Nat → UInt64 → Int → Option Int
  | 0, _, _ => none
  | nf + 1, room1, x1 => gmem_CheckL1B l (gmem_CheckL1 l nf) room1 x1

/-- gmem.Check -/
def gmem_Check (l : List Region) : Option Int :=
  br (decide ((len l) > (16 : Int)))
  (some (2 : Int))
  (gmem_CheckL1 l fuel (1048576 : UInt64) (0 : Int))

/-- slices.Clone[[]api.Region,api.Region] -/
def slices_Clone_apiRegionapiRegion (sp0 : List Region) : Option (List Region) :=
  chk (fits ([] : List Region).length sp0.length 16) <|
  some sp0

def gmem_NewL1B (l : List Region) (region1 : (List Region)) (L1 : (List (List UInt8)) → Int → Option ((Option gmem_Mem) × Int)) (rows1 : List (List UInt8)) (x1 : Int) : Option ((Option gmem_Mem) × Int) :=
  br (decide (x1 < (len l)))
  (ob (ix l x1) fun r1 =>
  chk (decide (0 ≤ (r1.Len.toNat : Int) ∧ (r1.Len.toNat : Int) ≤ (r1.Len.toNat : Int) ∧ (1 : Int) * (r1.Len.toNat : Int) ≤ 140737488355328)) <|
  ob (ix rows1 x1) fun row1 =>
  L1 (rows1.set (Int.toNat x1) (List.replicate (Int.toNat (r1.Len.toNat : Int)) (0 : UInt8))) (wi (x1 + (1 : Int))))
  (some ((some (gmem_Mem.mk region1 rows1)), (0 : Int)))

def gmem_NewL1 (l : List Region) (region1 : (List Region)) : Nat → (List (List UInt8)) → Int → Option ((Option gmem_Mem) × Int)
  | 0, _, _ => none
  | nf + 1, rows1, x1 => gmem_NewL1B l region1 (gmem_NewL1 l region1 nf) rows1 x1

/-- gmem.New -/
def gmem_New (l : List Region) : Option ((Option gmem_Mem) × Int) :=
  ob (gmem_Check l) fun check1 =>
  br (check1 != (0 : Int))
  (some ((none : Option gmem_Mem), check1))
  (ob (slices_Clone_apiRegionapiRegion l) fun region1 =>
  chk (decide (0 ≤ (len l) ∧ (len l) ≤ (wi ((len l) + (1 : Int))) ∧ (24 : Int) * (wi ((len l) + (1 : Int))) ≤ 140737488355328)) <|
  gmem_NewL1 l region1 fuel (List.replicate (Int.toNat (len l)) [] : List (List UInt8)) (0 : Int))

/-- (*gmem.Mem).made -/
def gmem_Mem_made (m : gmem_Mem) : Option Bool :=
  some true

/-- (*gmem.Mem).bytes$1 -/
def gmem_Mem_bytes_1 (ip0 : Int) (arg1 : gmem_Mem) (arg2 : UInt64) : Option Bool :=
  ob (ix arg1.l ip0) fun r1 =>
  ob (ix arg1.l ip0) fun r2 =>
  some (decide (((r1.Len - (1 : UInt64)) + r2.At) ≥ arg2))

def sort_SearchFgmem_Mem_bytes_1L1B (fc0 : gmem_Mem) (fc1 : UInt64) (L1 : Int → Int → Option Int) (i1 : Int) (j1 : Int) : Option Int :=
  br (decide (i1 < j1))
  (ob (gmem_Mem_bytes_1 (i64 (shr64 (u64 (wi (i1 + j1))) ((1 : UInt64).toNat))) fc0 fc1) fun bytes1 =>
  br ((!bytes1))
  (L1 (wi ((i64 (shr64 (u64 (wi (i1 + j1))) ((1 : UInt64).toNat))) + (1 : Int))) j1)
  (L1 i1 (i64 (shr64 (u64 (wi (i1 + j1))) ((1 : UInt64).toNat)))))
  (some i1)

def sort_SearchFgmem_Mem_bytes_1L1 (fc0 : gmem_Mem) (fc1 : UInt64) : Nat → Int → Int → Option Int
  | 0, _, _ => none
  | nf + 1, i1, j1 => sort_SearchFgmem_Mem_bytes_1L1B fc0 fc1 (sort_SearchFgmem_Mem_bytes_1L1 fc0 fc1 nf) i1 j1

/-- sort.Search -/
def sort_SearchFgmem_Mem_bytes_1 (np0 : Int) (fc0 : gmem_Mem) (fc1 : UInt64) : Option Int :=
  sort_SearchFgmem_Mem_bytes_1L1 fc0 fc1 fuel (0 : Int) np0

/-- (*gmem.Mem).bytes -/
def gmem_Mem_bytes (m : gmem_Mem) (atp1 : UInt64) (np2 : UInt64) : Option (Option (Int × Int × Int)) :=
  br (decide (np2 < (1 : UInt64)))
  (some (none : Option (Int × Int × Int)))
  (ob (sort_SearchFgmem_Mem_bytes_1 (len m.l) m atp1) fun search1 =>
  br (search1 == (len m.l))
  (some (none : Option (Int × Int × Int)))
  (ob (ix m.l search1) fun r1 =>
  br (decide (atp1 < r1.At))
  (some (none : Option (Int × Int × Int)))
  (ob (ix m.l search1) fun r2 =>
  ob (ix m.l search1) fun r3 =>
  br (decide (np2 > (r3.Len - (atp1 - r2.At))))
  (some (none : Option (Int × Int × Int)))
  (ob (ix m.b search1) fun row1 =>
  chk (decide (0 ≤ ((atp1 - r2.At).toNat : Int) ∧ ((atp1 - r2.At).toNat : Int) ≤ (((atp1 - r2.At) + np2).toNat : Int) ∧ (((atp1 - r2.At) + np2).toNat : Int) ≤ len row1)) <|
  some (some (search1, ((atp1 - r2.At).toNat : Int), (((atp1 - r2.At) + np2).toNat : Int)))))))

/-- (*gmem.Mem).Write -/
def gmem_Mem_Write (m : gmem_Mem) (atp1 : UInt64) (arg2 : List UInt8) : Option (Int × (List (List UInt8))) :=
  ob (gmem_Mem_made m) fun made1 =>
  br ((len arg2) == (0 : Int))
  (some ((0 : Int), m.b))
  (ob (gmem_Mem_bytes m atp1 (u64 (len arg2))) fun bytes1 =>
  onO bytes1
  (some ((5 : Int), m.b))
  (fun w1 =>
  ob (ix m.b w1.1) fun row1 =>
  chk (decide (0 ≤ w1.2.1 ∧ w1.2.1 ≤ w1.2.2 ∧ w1.2.2 ≤ len row1)) <|
  chk (decide (w1.2.1 < w1.2.2)) <|
  some ((0 : Int), m.b.set (Int.toNat w1.1) (copyAt row1 w1.2.1 w1.2.2 arg2))))

/-- seg.Check$1 -/
def seg_Check_1 (arg0 : Int) (arg1 : UInt64) : Option Int :=
  br (arg0 == (0 : Int))
  (br (decide (arg1 ≥ (4294967296 : UInt64)))
  (some (2 : Int))
  (some arg0))
  (some arg0)

def seg_CheckL1B (l : List Seg) (L1 : Int → UInt64 → Int → Option Int) (m1 : Int) (m2 : UInt64) (x1 : Int) : Option Int :=
  br (decide (x1 < (len l)))
  (ob (ix l x1) fun s1 =>
  br (decide (s1.Len < (1 : UInt32)))
  (ob (seg_Check_1 (2 : Int) m2) fun check1 =>
  some check1)
  (br (decide ((s1.Len.toUInt64 - (1 : UInt64)) > ((18446744073709551615 : UInt64) - s1.At)))
  (ob (seg_Check_1 (2 : Int) m2) fun check2 =>
  some check2)
  (br (decide (x1 > (0 : Int)))
  (ob (ix l (wi (x1 - (1 : Int)))) fun s2 =>
  br (s2.Write)
  (br ((!s1.Write))
  (ob (seg_Check_1 (2 : Int) m2) fun check3 =>
  some check3)
  (L1 m1 (m2 + s1.Len.toUInt64) (wi (x1 + (1 : Int)))))
  (L1 m1 (m2 + s1.Len.toUInt64) (wi (x1 + (1 : Int)))))
  (L1 m1 (m2 + s1.Len.toUInt64) (wi (x1 + (1 : Int)))))))
  (ob (seg_Check_1 (0 : Int) m2) fun check4 =>
  some check4)

def seg_CheckL1 (l : List Seg) : Nat → Int → UInt64 → Int → Option Int
  | 0, _, _, _ => none
  | nf + 1, m1, m2, x1 => seg_CheckL1B l (seg_CheckL1 l nf) m1 m2 x1

/-- seg.Check -/
def seg_Check (l : List Seg) : Option Int :=
  br (decide ((len l) > (64 : Int)))
  (some (3 : Int))
  (seg_CheckL1 l fuel (0 : Int) (0 : UInt64) (0 : Int))

/-- slices.Clone[[]byte,byte] -/
def slices_Clone_bytebyte (sp0 : List UInt8) : Option (List UInt8) :=
  chk (fits ([] : List UInt8).length sp0.length 1) <|
  some sp0

/-- (*gmem.Mem).Read -/
def gmem_Mem_Read (m : gmem_Mem) (atp1 : UInt64) (np2 : Int) : Option ((List UInt8) × Int) :=
  ob (gmem_Mem_made m) fun made1 =>
  br (decide (np2 < (0 : Int)))
  (some (([] : List UInt8), (2 : Int)))
  (br (np2 == (0 : Int))
  (some (([] : List UInt8), (0 : Int)))
  (ob (gmem_Mem_bytes m atp1 (u64 np2)) fun bytes1 =>
  onO bytes1
  (some (([] : List UInt8), (5 : Int)))
  (fun w1 =>
  ob (ix m.b w1.1) fun row1 =>
  chk (decide (0 ≤ w1.2.1 ∧ w1.2.1 ≤ w1.2.2 ∧ w1.2.2 ≤ len row1)) <|
  chk (decide (w1.2.1 < w1.2.2)) <|
  ob (slices_Clone_bytebyte (sub row1 w1.2.1 w1.2.2)) fun cloneb1 =>
  some (cloneb1, (0 : Int)))))

/-- (*gmem.Mem).Has -/
def gmem_Mem_Has (m : gmem_Mem) (atp1 : UInt64) (np2 : UInt64) : Option Bool :=
  ob (gmem_Mem_made m) fun made1 =>
  ob (gmem_Mem_bytes m atp1 np2) fun bytes1 =>
  onO bytes1
  (some false)
  (fun w1 =>
  ob (ix m.b w1.1) fun row1 =>
  chk (decide (0 ≤ w1.2.1 ∧ w1.2.1 ≤ w1.2.2 ∧ w1.2.2 ≤ len row1)) <|
  chk (decide (w1.2.1 < w1.2.2)) <|
  some true)

def seg_InL1B (m : gmem_Mem) (l : List Seg) (L1 : Int → Option Int) (x1 : Int) : Option Int :=
  br (decide (x1 < (len l)))
  (ob (ix l x1) fun s1 =>
  ob (gmem_Mem_Has m s1.At s1.Len.toUInt64) fun has1 =>
  br ((!has1))
  (some (5 : Int))
  (L1 (wi (x1 + (1 : Int)))))
  (some (0 : Int))

def seg_InL1 (m : gmem_Mem) (l : List Seg) : Nat → Int → Option Int
  | 0, _ => none
  | nf + 1, x1 => seg_InL1B m l (seg_InL1 m l nf) x1

/-- seg.In -/
def seg_In (m : gmem_Mem) (l : List Seg) : Option Int :=
  ob (gmem_Mem_Read m (0 : UInt64) (0 : Int)) fun read1 =>
  br (read1.2 != (0 : Int))
  (some read1.2)
  (ob (seg_Check l) fun check1 =>
  br (check1 != (0 : Int))
  (some check1)
  (seg_InL1 m l fuel (0 : Int)))

def seg_PartL1B (l : List Seg) (write : Bool) (L1 : (List Seg) → Int → Option (List Seg)) (out1 : List Seg) (x1 : Int) : Option (List Seg) :=
  br (decide (x1 < (len l)))
  (ob (ix l x1) fun s1 =>
  br (s1.Write == write)
  (chk (fits out1.length [s1].length 16) <|
  L1 (out1 ++ [s1]) (wi (x1 + (1 : Int))))
  (L1 out1 (wi (x1 + (1 : Int)))))
  (some out1)

def seg_PartL1 (l : List Seg) (write : Bool) : Nat → (List Seg) → Int → Option (List Seg)
  | 0, _, _ => none
  | nf + 1, out1, x1 => seg_PartL1B l write (seg_PartL1 l write nf) out1 x1

/-- seg.Part -/
def seg_Part (l : List Seg) (write : Bool) : Option (List Seg) :=
  ob (seg_Check l) fun check1 =>
  br (check1 != (0 : Int))
  (some ([] : List Seg))
  (seg_PartL1 l write fuel [] (0 : Int))

def slices_Grow_bytebyten0J1 (np1 : Int)  : Option (List UInt8) :=
  br (decide ((wi (np1 - (wi ((0 : Int) - (0 : Int))))) > (0 : Int)))
  (chk (decide (0 ≤ (wi (np1 - (wi ((0 : Int) - (0 : Int))))) ∧ (1 : Int) * (wi (np1 - (wi ((0 : Int) - (0 : Int))))) ≤ 140737488355328)) <|
  chk (decide (0 ≤ (0 : Int) ∧ (0 : Int) ≤ len (List.replicate (wi (np1 - (wi ((0 : Int) - (0 : Int))))).toNat (0 : UInt8)))) <|
  some ((List.replicate (wi (np1 - (wi ((0 : Int) - (0 : Int))))).toNat (0 : UInt8)).take (0 : Int).toNat))
  (some ([] : List UInt8))

/-- slices.Grow[[]byte,byte] -/
def slices_Grow_bytebyten0 (np1 : Int) : Option (List UInt8) :=
  chk (!(decide (np1 < (0 : Int)))) <|
  slices_Grow_bytebyten0J1 np1

def slices_Concat_bytebyteJ2 (x1 : Int) (L1 : Int → Int → Option (List UInt8)) (size2 : Int) : Option (List UInt8) :=
  L1 size2 (wi (x1 + (1 : Int)))

def slices_Concat_bytebyteJ3 (size1 : Int) (x1 : Int) (L1 : Int → Int → Option (List UInt8)) (y1 : List UInt8)  : Option (List UInt8) :=
  slices_Concat_bytebyteJ2 x1 L1 (wi (size1 + (len y1)))

def slices_Concat_bytebyteL4B (slices : List (List UInt8)) (L4 : (List UInt8) → Int → Option (List UInt8)) (newslice1 : List UInt8) (x2 : Int) : Option (List UInt8) :=
  br (decide (x2 < (len slices)))
  (ob (ix slices x2) fun y2 =>
  chk (fits newslice1.length y2.length 1) <|
  L4 (newslice1 ++ y2) (wi (x2 + (1 : Int))))
  (some newslice1)

def slices_Concat_bytebyteL4 (slices : List (List UInt8)) : Nat → (List UInt8) → Int → Option (List UInt8)
  | 0, _, _ => none
  | nf + 1, newslice1, x2 => slices_Concat_bytebyteL4B slices (slices_Concat_bytebyteL4 slices nf) newslice1 x2

def slices_Concat_bytebyteL1B (slices : List (List UInt8)) (L1 : Int → Int → Option (List UInt8)) (size1 : Int) (x1 : Int) : Option (List UInt8) :=
  br (decide (x1 < (len slices)))
  (ob (ix slices x1) fun y1 =>
  chk (!(decide ((wi (size1 + (len y1))) < (0 : Int)))) <|
  slices_Concat_bytebyteJ3 size1 x1 L1 y1)
  (ob (slices_Grow_bytebyten0 size1) fun growby1 =>
  slices_Concat_bytebyteL4 slices fuel growby1 (0 : Int))

def slices_Concat_bytebyteL1 (slices : List (List UInt8)) : Nat → Int → Int → Option (List UInt8)
  | 0, _, _ => none
  | nf + 1, size1, x1 => slices_Concat_bytebyteL1B slices (slices_Concat_bytebyteL1 slices nf) size1 x1

/-- slices.Concat[[]byte,byte] -/
def slices_Concat_bytebyte (slices : List (List UInt8)) : Option (List UInt8) :=
  slices_Concat_bytebyteL1 slices fuel (0 : Int) (0 : Int)

def seg_GatherL1B (m : gmem_Mem) (part1 : (List Seg)) (L1 : (List (List UInt8)) → (List Seg) → Int → Option ((List UInt8) × Int)) (parts1 : List (List UInt8)) (l1 : List Seg) (x1 : Int) : Option ((List UInt8) × Int) :=
  br (decide (x1 < (len part1)))
  (ob (ix l1 x1) fun s1 =>
  ob (gmem_Mem_Read m s1.At (i32 s1.Len)) fun read1 =>
  br (read1.2 != (0 : Int))
  (some (([] : List UInt8), read1.2))
  (chk (fits parts1.length [read1.1].length 24) <|
  L1 (parts1 ++ [read1.1]) l1 (wi (x1 + (1 : Int)))))
  (ob (slices_Concat_bytebyte parts1) fun concat1 =>
  some (concat1, (0 : Int)))

def seg_GatherL1 (m : gmem_Mem) (part1 : (List Seg)) : Nat → (List (List UInt8)) → (List Seg) → Int → Option ((List UInt8) × Int)
  | 0, _, _, _ => none
  | nf + 1, parts1, l1, x1 => seg_GatherL1B m part1 (seg_GatherL1 m part1 nf) parts1 l1 x1

/-- seg.Gather -/
def seg_Gather (m : gmem_Mem) (l : List Seg) : Option ((List UInt8) × Int) :=
  ob (seg_In m l) fun in1 =>
  br (in1 != (0 : Int))
  (some (([] : List UInt8), in1))
  (ob (seg_Part l false) fun part1 =>
  seg_GatherL1 m part1 fuel [] part1 (0 : Int))

def seg_TotalJ2 (x1 : Int) (L1 : UInt64 → UInt64 → Int → Option (UInt64 × UInt64)) (read2 : UInt64) (write2 : UInt64) : Option (UInt64 × UInt64) :=
  L1 read2 write2 (wi (x1 + (1 : Int)))

def seg_TotalJ3 (x1 : Int) (L1 : UInt64 → UInt64 → Int → Option (UInt64 × UInt64)) (read3 : UInt64) (write3 : UInt64) : Option (UInt64 × UInt64) :=
  seg_TotalJ2 x1 L1 read3 write3

def seg_TotalL1B (l : List Seg) (L1 : UInt64 → UInt64 → Int → Option (UInt64 × UInt64)) (read1 : UInt64) (write1 : UInt64) (x1 : Int) : Option (UInt64 × UInt64) :=
  br (decide (x1 < (len l)))
  (ob (ix l x1) fun s1 =>
  br (s1.Write)
  (seg_TotalJ3 x1 L1 read1 (write1 + s1.Len.toUInt64))
  (seg_TotalJ3 x1 L1 (read1 + s1.Len.toUInt64) write1))
  (some (read1, write1))

def seg_TotalL1 (l : List Seg) : Nat → UInt64 → UInt64 → Int → Option (UInt64 × UInt64)
  | 0, _, _, _ => none
  | nf + 1, read1, write1, x1 => seg_TotalL1B l (seg_TotalL1 l nf) read1 write1 x1

/-- seg.Total -/
def seg_Total (l : List Seg) : Option (UInt64 × UInt64) :=
  ob (seg_Check l) fun check1 =>
  br (check1 != (0 : Int))
  (some ((0 : UInt64), (0 : UInt64)))
  (seg_TotalL1 l fuel (0 : UInt64) (0 : UInt64) (0 : Int))

def seg_row_eatL1B  (L1 : (List Seg) → UInt64 → (List Seg) → Option ((List Seg) × (List Seg))) (m1 : List Seg) (n1 : UInt64) (out1 : List Seg) : Option ((List Seg) × (List Seg)) :=
  br (decide (n1 > (0 : UInt64)))
  (br (decide ((len m1) > (0 : Int)))
  (ob (ix m1 (0 : Int)) fun s1 =>
  chk (fits out1.length [(Seg.mk s1.At ((minu64 n1 s1.Len.toUInt64).toUInt32) s1.Write)].length 16) <|
  br (decide ((minu64 n1 s1.Len.toUInt64) < s1.Len.toUInt64))
  (chk (decide (0 ≤ (1 : Int) ∧ (1 : Int) ≤ (len m1) ∧ (len m1) ≤ len m1)) <|
  chk (fits [(Seg.mk (s1.At + (minu64 n1 s1.Len.toUInt64)) (s1.Len - ((minu64 n1 s1.Len.toUInt64).toUInt32)) s1.Write)].length (sub m1 (1 : Int) (len m1)).length 16) <|
  some (out1 ++ [(Seg.mk s1.At ((minu64 n1 s1.Len.toUInt64).toUInt32) s1.Write)], [(Seg.mk (s1.At + (minu64 n1 s1.Len.toUInt64)) (s1.Len - ((minu64 n1 s1.Len.toUInt64).toUInt32)) s1.Write)] ++ (sub m1 (1 : Int) (len m1))))
  (chk (decide (0 ≤ (1 : Int) ∧ (1 : Int) ≤ (len m1) ∧ (len m1) ≤ len m1)) <|
  L1 (sub m1 (1 : Int) (len m1)) (n1 - (minu64 n1 s1.Len.toUInt64)) (out1 ++ [(Seg.mk s1.At ((minu64 n1 s1.Len.toUInt64).toUInt32) s1.Write)])))
  (some (out1, m1)))
  (some (out1, m1))

def seg_row_eatL1  : Nat → (List Seg) → UInt64 → (List Seg) → Option ((List Seg) × (List Seg))
  | 0, _, _, _ => none
  | nf + 1, m1, n1, out1 => seg_row_eatL1B (seg_row_eatL1 nf) m1 n1 out1

/-- (*seg.row).eat -/
def seg_row_eat (rp0 : List Seg) (np1 : UInt64) : Option ((List Seg) × (List Seg)) :=
  seg_row_eatL1 fuel rp0 np1 []

def seg_ScatterL1B (m : gmem_Mem) (b : List UInt8) (eat1 : ((List Seg) × (List Seg))) (L1 : (List (List UInt8)) → Int → (List Seg) → Int → Option (Int × Int × (List (List UInt8)))) (rows1 : List (List UInt8)) (n1 : Int) (l1 : List Seg) (x1 : Int) : Option (Int × Int × (List (List UInt8))) :=
  br (decide (x1 < (len eat1.1)))
  (ob (ix l1 x1) fun s1 =>
  chk (decide (0 ≤ n1 ∧ n1 ≤ (wi (n1 + (i32 s1.Len))) ∧ (wi (n1 + (i32 s1.Len))) ≤ len b)) <|
  ob (gmem_Mem_Write (gmem_Mem.mk m.l rows1) s1.At (sub b n1 (wi (n1 + (i32 s1.Len))))) fun write1 =>
  L1 write1.2 (wi (n1 + (i32 s1.Len))) l1 (wi (x1 + (1 : Int))))
  (some (n1, (0 : Int), rows1))

def seg_ScatterL1 (m : gmem_Mem) (b : List UInt8) (eat1 : ((List Seg) × (List Seg))) : Nat → (List (List UInt8)) → Int → (List Seg) → Int → Option (Int × Int × (List (List UInt8)))
  | 0, _, _, _, _ => none
  | nf + 1, rows1, n1, l1, x1 => seg_ScatterL1B m b eat1 (seg_ScatterL1 m b eat1 nf) rows1 n1 l1 x1

/-- seg.Scatter -/
def seg_Scatter (m : gmem_Mem) (l : List Seg) (b : List UInt8) : Option (Int × Int × (List (List UInt8))) :=
  ob (seg_In m l) fun in1 =>
  br (in1 != (0 : Int))
  (some ((0 : Int), in1, m.b))
  (ob (seg_Part l true) fun part1 =>
  ob (seg_row_eat part1 (u64 (len b))) fun eat1 =>
  seg_ScatterL1 m b eat1 fuel m.b (0 : Int) eat1.1 (0 : Int))

/-- blk.Do -/
def blk_Do (m : gmem_Mem) (sp1 : sectors_Store) (feats : UInt64) (name : List UInt8) (l : List Seg) : Option (UInt32 × Int × (List (List UInt8)) × sectors_Store) :=
  ob (seg_Gather m l) fun gather1 =>
  br (gather1.2 != (0 : Int))
  (some ((0 : UInt32), gather1.2, m.b, sp1))
  (ob (seg_Total l) fun total1 =>
  ob (blk_Read gather1.1) fun read1 =>
  br (read1.2 != (0 : Int))
  (some ((0 : UInt32), (0 : Int), m.b, sp1))
  (br (total1.2 == (0 : UInt64))
  (some ((0 : UInt32), (0 : Int), m.b, sp1))
  (ob (blk_kind_does read1.1.Type_) fun does1 =>
  br (does1 == 38)
  (ob (blk_work_in (blk_work.mk feats name read1.1.Data read1.1.Sector (total1.2 - (1 : UInt64))) sp1) fun in1 =>
  ob (seg_Scatter m l in1.1) fun scatte1 =>
  ob (ix l (wi ((len l) - (1 : Int)))) fun s1 =>
  ob (gmem_Mem_Write (gmem_Mem.mk m.l scatte1.2.2) ((s1.At + s1.Len.toUInt64) - (1 : UInt64)) [in1.2.1]) fun write1 =>
  some ((u32 (len in1.1)) + (1 : UInt32), (0 : Int), write1.2, in1.2.2))
  (br (does1 == 39)
  (ob (blk_work_out (blk_work.mk feats name read1.1.Data read1.1.Sector (total1.2 - (1 : UInt64))) sp1) fun out1 =>
  ob (seg_Scatter m l out1.1) fun scatte2 =>
  ob (ix l (wi ((len l) - (1 : Int)))) fun s2 =>
  ob (gmem_Mem_Write (gmem_Mem.mk m.l scatte2.2.2) ((s2.At + s2.Len.toUInt64) - (1 : UInt64)) [out1.2.1]) fun write2 =>
  some ((u32 (len out1.1)) + (1 : UInt32), (0 : Int), write2.2, out1.2.2))
  (br (does1 == 40)
  (ob (blk_work_sync (blk_work.mk feats name read1.1.Data read1.1.Sector (total1.2 - (1 : UInt64))) sp1) fun sync1 =>
  ob (seg_Scatter m l sync1.1) fun scatte3 =>
  ob (ix l (wi ((len l) - (1 : Int)))) fun s3 =>
  ob (gmem_Mem_Write (gmem_Mem.mk m.l scatte3.2.2) ((s3.At + s3.Len.toUInt64) - (1 : UInt64)) [sync1.2.1]) fun write3 =>
  some ((u32 (len sync1.1)) + (1 : UInt32), (0 : Int), write3.2, sync1.2.2))
  (br (does1 == 41)
  (ob (blk_work_id (blk_work.mk feats name read1.1.Data read1.1.Sector (total1.2 - (1 : UInt64))) sp1) fun id1 =>
  ob (seg_Scatter m l id1.1) fun scatte4 =>
  ob (ix l (wi ((len l) - (1 : Int)))) fun s4 =>
  ob (gmem_Mem_Write (gmem_Mem.mk m.l scatte4.2.2) ((s4.At + s4.Len.toUInt64) - (1 : UInt64)) [id1.2]) fun write4 =>
  some ((u32 (len id1.1)) + (1 : UInt32), (0 : Int), write4.2, sp1))
  (br (does1 == 42)
  (ob (blk_kind_does_1 (blk_work.mk feats name read1.1.Data read1.1.Sector (total1.2 - (1 : UInt64))) sp1) fun does2 =>
  ob (seg_Scatter m l does2.1) fun scatte5 =>
  ob (ix l (wi ((len l) - (1 : Int)))) fun s5 =>
  ob (gmem_Mem_Write (gmem_Mem.mk m.l scatte5.2.2) ((s5.At + s5.Len.toUInt64) - (1 : UInt64)) [does2.2.1]) fun write5 =>
  some ((u32 (len does2.1)) + (1 : UInt32), (0 : Int), write5.2, does2.2.2))
  (br (does1 == 44)
  (ob (blk_kind_does_2 (blk_work.mk feats name read1.1.Data read1.1.Sector (total1.2 - (1 : UInt64))) sp1) fun does3 =>
  ob (seg_Scatter m l does3.1) fun scatte6 =>
  ob (ix l (wi ((len l) - (1 : Int)))) fun s6 =>
  ob (gmem_Mem_Write (gmem_Mem.mk m.l scatte6.2.2) ((s6.At + s6.Len.toUInt64) - (1 : UInt64)) [does3.2.1]) fun write6 =>
  some ((u32 (len does3.1)) + (1 : UInt32), (0 : Int), write6.2, does3.2.2))
  (chk (does1 == 45) <|
  ob (blk_kind_does_3 (blk_work.mk feats name read1.1.Data read1.1.Sector (total1.2 - (1 : UInt64))) sp1) fun does4 =>
  ob (seg_Scatter m l does4.1) fun scatte7 =>
  ob (ix l (wi ((len l) - (1 : Int)))) fun s7 =>
  ob (gmem_Mem_Write (gmem_Mem.mk m.l scatte7.2.2) ((s7.At + s7.Len.toUInt64) - (1 : UInt64)) [does4.2]) fun write7 =>
  some ((u32 (len does4.1)) + (1 : UInt32), (0 : Int), write7.2, sp1))))))))))

def ref_Check05L1B (l : List Seg) (L1 : UInt64 → Int → Option Int) (sum1 : UInt64) (i1 : Int) : Option Int :=
  br (decide (i1 < (len l)))
  (ob (ix l i1) fun s1 =>
  br (s1.Len == (0 : UInt32))
  (some (2 : Int))
  (ob (ix l i1) fun s2 =>
  ob (ix l i1) fun s3 =>
  ob (ix l i1) fun s4 =>
  br (decide ((s2.At + (s3.Len.toUInt64 - (1 : UInt64))) < s4.At))
  (some (2 : Int))
  (br (decide (i1 > (0 : Int)))
  (ob (ix l (wi (i1 - (1 : Int)))) fun s5 =>
  br (s5.Write)
  (ob (ix l i1) fun s6 =>
  br ((!s6.Write))
  (some (2 : Int))
  (ob (ix l i1) fun s7 =>
  L1 (sum1 + s7.Len.toUInt64) (wi (i1 + (1 : Int)))))
  (ob (ix l i1) fun s8 =>
  L1 (sum1 + s8.Len.toUInt64) (wi (i1 + (1 : Int)))))
  (ob (ix l i1) fun s9 =>
  L1 (sum1 + s9.Len.toUInt64) (wi (i1 + (1 : Int)))))))
  (br (decide (sum1 ≥ (4294967296 : UInt64)))
  (some (2 : Int))
  (some (0 : Int)))

def ref_Check05L1 (l : List Seg) : Nat → UInt64 → Int → Option Int
  | 0, _, _ => none
  | nf + 1, sum1, i1 => ref_Check05L1B l (ref_Check05L1 l nf) sum1 i1

/-- dumbwaiterref05.Check -/
def ref_Check05 (l : List Seg) : Option Int :=
  br (decide ((len l) > (64 : Int)))
  (some (3 : Int))
  (ref_Check05L1 l fuel (0 : UInt64) (0 : Int))

def law21zBlkCutsL1B (rp0 : Req) (image : List UInt8) (feats : UInt64) (bytes1 : ((List UInt8) × Int)) (cut1 : (List Seg)) (cut2 : (List Seg)) (L1 : UInt32 → UInt64 → (List UInt8) → Int → (List Range) → (List UInt8) → (A2 (List UInt8)) → Int → Option Bool) (Type1 : UInt32) (Sector1 : UInt64) (Data1 : List UInt8) (Room1 : Int) (Ranges1 : List Range) (l1 : List UInt8) (m1 : A2 (List UInt8)) (x1 : Int) : Option Bool :=
  br (decide (x1 < (len [[(Seg.mk (0 : UInt64) (u32 (len bytes1.1)) false), (Seg.mk (8192 : UInt64) (u32 (wi (rp0.Room + (1 : Int)))) true)], cut1 ++ cut2])))
  (ob (ix [[(Seg.mk (0 : UInt64) (u32 (len bytes1.1)) false), (Seg.mk (8192 : UInt64) (u32 (wi (rp0.Room + (1 : Int)))) true)], cut1 ++ cut2] x1) fun y1 =>
  ob (gmem_New [(Region.mk (0 : UInt64) (16384 : UInt64))]) fun new1 =>
  onO new1.1
  (none)
  (fun mem1 =>
  ob (kit_Own image) fun own1 =>
  ob (sectors_Of own1) fun of1 =>
  onO of1.1
  (chk (!(new1.2 != (0 : Int))) <|
  chk (of1.2 != (0 : Int)) <|
  some true)
  (fun store1 =>
  chk (!(new1.2 != (0 : Int))) <|
  br (of1.2 != (0 : Int))
  (some true)
  (ob (gmem_Mem_Write mem1 (0 : UInt64) l1) fun write2 =>
  chk (!(write2.1 != (0 : Int))) <|
  ob (blk_Do (gmem_Mem.mk mem1.l write2.2) store1 feats ([98, 111, 120] : List UInt8) y1) fun do1 =>
  ob (gmem_Mem_Read (gmem_Mem.mk mem1.l do1.2.2.1) (8192 : UInt64) (wi (Room1 + (1 : Int)))) fun read1 =>
  chk (!(do1.2.1 != (0 : Int))) <|
  chk (!(read1.2 != (0 : Int))) <|
  chk (!(decide (do1.1 < (1 : UInt32)))) <|
  ob (kit_Own image) fun own2 =>
  ob (sectors_Of own2) fun of2 =>
  onO of2.1
  (none)
  (fun store2 =>
  ob (blk_Apply store2 feats ([98, 111, 120] : List UInt8) (Req.mk Type1 Sector1 Data1 Room1 Ranges1)) fun apply1 =>
  chk (!(apply1.2.2.1 != (0 : Int))) <|
  ob (ix read1.1 Room1) fun y2 =>
  chk (!(y2 != apply1.2.1)) <|
  chk (!(do1.1 != ((u32 (len apply1.1)) + (1 : UInt32)))) <|
  chk (decide (0 ≤ (0 : Int) ∧ (0 : Int) ≤ (len apply1.1) ∧ (len apply1.1) ≤ len read1.1)) <|
  chk (!((sub read1.1 (0 : Int) (len apply1.1)) != apply1.1)) <|
  ob (sectors_Store_Image apply1.2.2.2) fun image1 =>
  ob (sectors_Store_Image do1.2.2.2) fun image2 =>
  chk (!(image1.1 != image2.1)) <|
  ob (sectors_Store_Image image2.2) fun image3 =>
  chk (decide (read1.1.length + image3.1.length ≤ 9223372036854775807)) <|
  chk (decide (0 ≤ x1 ∧ x1 < (2 : Int))) <|
  chk (decide (0 ≤ x1 ∧ x1 < (2 : Int))) <|
  L1 Type1 Sector1 Data1 Room1 Ranges1 l1 (m1.st x1.toNat (read1.1 ++ image3.1)) (wi (x1 + (1 : Int))))))))
  (chk (m1.a0 == m1.a1) <|
  ob (ref_Check05 (cut1 ++ cut2)) fun check2 =>
  chk (check2 == (0 : Int)) <|
  some true)

def law21zBlkCutsL1 (rp0 : Req) (image : List UInt8) (feats : UInt64) (bytes1 : ((List UInt8) × Int)) (cut1 : (List Seg)) (cut2 : (List Seg)) : Nat → UInt32 → UInt64 → (List UInt8) → Int → (List Range) → (List UInt8) → (A2 (List UInt8)) → Int → Option Bool
  | 0, _, _, _, _, _, _, _, _ => none
  | nf + 1, Type1, Sector1, Data1, Room1, Ranges1, l1, m1, x1 => law21zBlkCutsL1B rp0 image feats bytes1 cut1 cut2 (law21zBlkCutsL1 rp0 image feats bytes1 cut1 cut2 nf) Type1 Sector1 Data1 Room1 Ranges1 l1 m1 x1

/-- dumbwaiterlaw21.BlkCuts -/
def law21zBlkCuts (rp0 : Req) (image : List UInt8) (feats : UInt64) (cuts : List Int) : Option Bool :=
  ob (law21zlives) fun lives1 =>
  chk (!((!lives1))) <|
  ob (kit_LightReq rp0 (6000 : Int)) fun lightr1 =>
  br ((!lightr1))
  (some true)
  (br (decide ((len image) > (6000 : Int)))
  (some true)
  (br (decide ((len cuts) > (40 : Int)))
  (some true)
  (ob (blk_Check rp0) fun check1 =>
  br (check1 != (0 : Int))
  (some true)
  (ob (blk_Bytes rp0) fun bytes1 =>
  chk (!(bytes1.2 != (0 : Int))) <|
  ob (ix [(Seg.mk (0 : UInt64) (u32 (len bytes1.1)) false), (Seg.mk (8192 : UInt64) (u32 (wi (rp0.Room + (1 : Int)))) true)] (0 : Int)) fun s1 =>
  ob (law21zcut s1 cuts) fun cut1 =>
  ob (ix [(Seg.mk (0 : UInt64) (u32 (len bytes1.1)) false), (Seg.mk (8192 : UInt64) (u32 (wi (rp0.Room + (1 : Int)))) true)] (1 : Int)) fun s2 =>
  ob (law21zcut s2 cuts) fun cut2 =>
  chk (fits cut1.length cut2.length 16) <|
  br (decide ((len (cut1 ++ cut2)) > (64 : Int)))
  (some true)
  (law21zBlkCutsL1 rp0 image feats bytes1 cut1 cut2 fuel rp0.Type_ rp0.Sector rp0.Data rp0.Room rp0.Ranges bytes1.1 (A2.mk ([] : List UInt8) ([] : List UInt8)) (0 : Int))))))
end Go.Proofs.Ytjfdamiilndgeaa
