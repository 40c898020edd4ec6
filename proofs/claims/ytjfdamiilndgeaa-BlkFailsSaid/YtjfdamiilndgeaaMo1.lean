/- What the functions reckon, as plain words. No statement of the seat is proved here; no condition. -/
import Derived.Test.YtjfdamiilndgeaaTy
namespace Go.Proofs.Ytjfdamiilndgeaa

/-- sectors.New -/
def sectors_New (np0 : Int) : Option ((Option sectors_Store) × Int) :=
  br (decide (np0 < (1 : Int)))
  (some ((none : Option sectors_Store), (2 : Int)))
  (br (decide (np0 > (4096 : Int)))
  (some ((none : Option sectors_Store), (2 : Int)))
  (chk (decide (0 ≤ np0 ∧ np0 ≤ np0 ∧ (512 : Int) * np0 ≤ 140737488355328)) <|
  some ((some (sectors_Store.mk (List.replicate np0.toNat Sec.z) ([] : List (Int × Sec)))), (0 : Int))))

/-- blk.ranged -/
def blk_ranged (tp0 : UInt32) : Option Bool :=
  br (tp0 == (11 : UInt32))
  (some true)
  (some (tp0 == (13 : UInt32)))

/-- blk.Check -/
def blk_Check (rp0 : Req) : Option Int :=
  br (decide ((len rp0.Ranges) > (16 : Int)))
  (some (2 : Int))
  (br (decide ((len rp0.Ranges) > (0 : Int)))
  (ob (blk_ranged rp0.Type_) fun ranged1 =>
  br ((!ranged1))
  (some (2 : Int))
  (br (decide ((len rp0.Data) > (0 : Int)))
  (some (2 : Int))
  (br (decide (rp0.Room < (0 : Int)))
  (some (2 : Int))
  (some (0 : Int)))))
  (br (decide (rp0.Room < (0 : Int)))
  (some (2 : Int))
  (some (0 : Int))))

def blk_wordL1B (np2 : Int) (L1 : (List UInt8) → UInt64 → Int → Option (List UInt8)) (b1 : List UInt8) (v2 : UInt64) (x1 : Int) : Option (List UInt8) :=
  br (decide (x1 < np2))
  (chk (fits b1.length [v2.toUInt8].length 1) <|
  L1 (b1 ++ [v2.toUInt8]) (shr64 v2 ((8 : UInt64).toNat)) (wi (x1 + (1 : Int))))
  (some b1)

def blk_wordL1 (np2 : Int) : Nat → (List UInt8) → UInt64 → Int → Option (List UInt8)
  | 0, _, _, _ => none
  | nf + 1, b1, v2, x1 => blk_wordL1B np2 (blk_wordL1 np2 nf) b1 v2 x1

/-- blk.word -/
def blk_word (b : List UInt8) (vp1 : UInt64) (np2 : Int) : Option (List UInt8) :=
  blk_wordL1 np2 fuel b vp1 (0 : Int)

def blk_BytesL1B (rp0 : Req) (L1 : (List UInt8) → Int → Option ((List UInt8) × Int)) (b2 : List UInt8) (x1 : Int) : Option ((List UInt8) × Int) :=
  br (decide (x1 < (len rp0.Ranges)))
  (ob (ix rp0.Ranges x1) fun r1 =>
  ob (blk_word b2 r1.Sector (8 : Int)) fun word4 =>
  ob (blk_word word4 r1.Count.toUInt64 (4 : Int)) fun word5 =>
  ob (blk_word word5 r1.Flags.toUInt64 (4 : Int)) fun word6 =>
  L1 word6 (wi (x1 + (1 : Int))))
  (some (b2, (0 : Int)))

def blk_BytesL1 (rp0 : Req) : Nat → (List UInt8) → Int → Option ((List UInt8) × Int)
  | 0, _, _ => none
  | nf + 1, b2, x1 => blk_BytesL1B rp0 (blk_BytesL1 rp0 nf) b2 x1

/-- blk.Bytes -/
def blk_Bytes (rp0 : Req) : Option ((List UInt8) × Int) :=
  ob (blk_Check rp0) fun check1 =>
  br (check1 != (0 : Int))
  (some (([] : List UInt8), check1))
  (ob (blk_word ([] : List UInt8) rp0.Type_.toUInt64 (4 : Int)) fun word1 =>
  ob (blk_word word1 (0 : UInt64) (4 : Int)) fun word2 =>
  ob (blk_word word2 rp0.Sector (8 : Int)) fun word3 =>
  chk (fits word3.length rp0.Data.length 1) <|
  blk_BytesL1 rp0 fuel (word3 ++ rp0.Data) (0 : Int))

def blk_numberL1B (b : List UInt8) (L1 : UInt64 → Int → Option UInt64) (v1 : UInt64) (i1 : Int) : Option UInt64 :=
  br (decide (i1 ≥ (0 : Int)))
  (ob (ix b i1) fun y1 =>
  L1 ((shl64 v1 ((8 : UInt64).toNat)) ||| y1.toUInt64) (wi (i1 - (1 : Int))))
  (some v1)

def blk_numberL1 (b : List UInt8) : Nat → UInt64 → Int → Option UInt64
  | 0, _, _ => none
  | nf + 1, v1, i1 => blk_numberL1B b (blk_numberL1 b nf) v1 i1

/-- blk.number -/
def blk_number (b : List UInt8) : Option UInt64 :=
  blk_numberL1 b fuel (0 : UInt64) (wi ((len b) - (1 : Int)))

/-- (blk.kind).does -/
def blk_kind_does (kp0 : UInt32) : Option Nat :=
  br (kp0 == (0 : UInt32))
  (some (38 : Nat))
  (br (kp0 == (1 : UInt32))
  (some (39 : Nat))
  (br (kp0 == (4 : UInt32))
  (some (40 : Nat))
  (br (kp0 == (8 : UInt32))
  (some (41 : Nat))
  (br (kp0 == (11 : UInt32))
  (some (42 : Nat))
  (br (kp0 == (13 : UInt32))
  (some (44 : Nat))
  (some (45 : Nat)))))))

/-- (*sectors.Store).Has -/
def sectors_Store_Has (sp0 : sectors_Store) (atp1 : UInt64) (np2 : UInt64) : Option Bool :=
  br (decide (atp1 ≤ (u64 (len sp0.l))))
  (some (decide (np2 ≤ ((u64 (len sp0.l)) - atp1))))
  (some false)

def sectors_Store_ReadL1B (atp1 : UInt64) (np2 : Int) (L1 : (List Sec) → (List (Int × Sec)) → (List UInt8) → Int → Option ((List UInt8) × Int × sectors_Store)) (l1 : List Sec) (map1 : List (Int × Sec)) (out1 : List UInt8) (x1 : Int) : Option ((List UInt8) × Int × sectors_Store) :=
  br (decide (x1 < np2))
  (ob (ix l1 (wi ((i64 atp1) + x1))) fun s1 =>
  chk (fits out1.length s1.l.length 1) <|
  L1 l1 map1 (out1 ++ s1.l) (wi (x1 + (1 : Int))))
  (some (out1, (0 : Int), (sectors_Store.mk l1 map1)))

def sectors_Store_ReadL1 (atp1 : UInt64) (np2 : Int) : Nat → (List Sec) → (List (Int × Sec)) → (List UInt8) → Int → Option ((List UInt8) × Int × sectors_Store)
  | 0, _, _, _, _ => none
  | nf + 1, l1, map1, out1, x1 => sectors_Store_ReadL1B atp1 np2 (sectors_Store_ReadL1 atp1 np2 nf) l1 map1 out1 x1

/-- (*sectors.Store).Read -/
def sectors_Store_Read (sp0 : sectors_Store) (atp1 : UInt64) (np2 : Int) : Option ((List UInt8) × Int × sectors_Store) :=
  br (decide (np2 < (0 : Int)))
  (some (([] : List UInt8), (2 : Int), sp0))
  (ob (sectors_Store_Has sp0 atp1 (u64 np2)) fun has1 =>
  br ((!has1))
  (some (([] : List UInt8), (5 : Int), sp0))
  (sectors_Store_ReadL1 atp1 np2 fuel sp0.l sp0.fresh [] (0 : Int)))

/-- (*blk.work).in -/
def blk_work_in (wp0 : blk_work) (wp0_s : sectors_Store) : Option ((List UInt8) × UInt8 × sectors_Store) :=
  br ((wp0.room % (512 : UInt64)) != (0 : UInt64))
  (some (([] : List UInt8), (1 : UInt8), wp0_s))
  (ob (sectors_Store_Has wp0_s wp0.at_ (wp0.room / (512 : UInt64))) fun has1 =>
  br ((!has1))
  (some (([] : List UInt8), (1 : UInt8), wp0_s))
  (ob (sectors_Store_Read wp0_s wp0.at_ (i64 (wp0.room / (512 : UInt64)))) fun read1 =>
  some (read1.1, (0 : UInt8), read1.2.2)))

/-- feat.Has -/
def feat_Has (set : UInt64) (bit : Int) : Option Bool :=
  br (decide (bit ≥ (0 : Int)))
  (br (decide (bit ≤ (63 : Int)))
  (chk (decide (0 ≤ bit)) <|
  some (((shr64 set bit.toNat) &&& (1 : UInt64)) == (1 : UInt64)))
  (some false))
  (some false)

def sectors_Store_putJ1 (np1 : Int) (l1 : List Sec) (map1 : List (Int × Sec)) (m1 : Sec) : Option sectors_Store :=
  ob (ix l1 np1) fun s1 =>
  some (sectors_Store.mk (l1.set np1.toNat m1) map1)

/-- (*sectors.Store).put -/
def sectors_Store_put (sp0 : sectors_Store) (np1 : Int) (arg2 : Sec) : Option sectors_Store :=
  br ((!(mhas np1 sp0.fresh)))
  (ob (ix sp0.l np1) fun s2 =>
  sectors_Store_putJ1 np1 sp0.l (mput np1 s2 sp0.fresh) arg2)
  (sectors_Store_putJ1 np1 sp0.l sp0.fresh arg2)

def sectors_Store_WriteL1B (atp1 : UInt64) (b : List UInt8) (L1 : (List Sec) → (List (Int × Sec)) → Int → Option (Int × sectors_Store)) (l1 : List Sec) (map1 : List (Int × Sec)) (x1 : Int) : Option (Int × sectors_Store) :=
  br (decide (x1 < (quoi (len b) (512 : Int))))
  (chk (decide (0 ≤ (wi (x1 * (512 : Int))) ∧ (wi (x1 * (512 : Int))) ≤ (wi ((wi (x1 + (1 : Int))) * (512 : Int))) ∧ (wi ((wi (x1 + (1 : Int))) * (512 : Int))) ≤ len b)) <|
  chk (Nat.ble 512 (sub b (wi (x1 * (512 : Int))) (wi ((wi (x1 + (1 : Int))) * (512 : Int)))).length) <|
  ob (Sec.of ((sub b (wi (x1 * (512 : Int))) (wi ((wi (x1 + (1 : Int))) * (512 : Int)))).take 512)) fun a1 =>
  ob (sectors_Store_put (sectors_Store.mk l1 map1) (wi ((i64 atp1) + x1)) a1) fun put1 =>
  L1 put1.l put1.fresh (wi (x1 + (1 : Int))))
  (some ((0 : Int), (sectors_Store.mk l1 map1)))

def sectors_Store_WriteL1 (atp1 : UInt64) (b : List UInt8) : Nat → (List Sec) → (List (Int × Sec)) → Int → Option (Int × sectors_Store)
  | 0, _, _, _ => none
  | nf + 1, l1, map1, x1 => sectors_Store_WriteL1B atp1 b (sectors_Store_WriteL1 atp1 b nf) l1 map1 x1

/-- (*sectors.Store).Write -/
def sectors_Store_Write (sp0 : sectors_Store) (atp1 : UInt64) (b : List UInt8) : Option (Int × sectors_Store) :=
  br ((remi (len b) (512 : Int)) != (0 : Int))
  (some ((2 : Int), sp0))
  (ob (sectors_Store_Has sp0 atp1 (u64 (quoi (len b) (512 : Int)))) fun has1 =>
  br ((!has1))
  (some ((5 : Int), sp0))
  (sectors_Store_WriteL1 atp1 b fuel sp0.l sp0.fresh (0 : Int)))

/-- (*blk.work).out -/
def blk_work_out (wp0 : blk_work) (wp0_s : sectors_Store) : Option ((List UInt8) × UInt8 × sectors_Store) :=
  ob (feat_Has wp0.feats (5 : Int)) fun has1 =>
  br (has1)
  (some (([] : List UInt8), (1 : UInt8), wp0_s))
  (ob (sectors_Store_Write wp0_s wp0.at_ wp0.data) fun write1 =>
  br (write1.1 != (0 : Int))
  (some (([] : List UInt8), (1 : UInt8), write1.2))
  (some (([] : List UInt8), (0 : UInt8), write1.2)))

/-- (*sectors.Store).Flush -/
def sectors_Store_Flush (sp0 : sectors_Store) : Option (Int × sectors_Store) :=
  some ((0 : Int), (sectors_Store.mk sp0.l ([] : List (Int × Sec))))

/-- (*blk.work).sync -/
def blk_work_sync (wp0 : blk_work) (wp0_s : sectors_Store) : Option ((List UInt8) × UInt8 × sectors_Store) :=
  ob (feat_Has wp0.feats (9 : Int)) fun has1 =>
  br ((!has1))
  (some (([] : List UInt8), (2 : UInt8), wp0_s))
  (ob (sectors_Store_Flush wp0_s) fun flush1 =>
  some (([] : List UInt8), (0 : UInt8), flush1.2))

/-- (*blk.work).id -/
def blk_work_id (wp0 : blk_work) (wp0_s : sectors_Store) : Option ((List UInt8) × UInt8) :=
  br (decide (wp0.room < (20 : UInt64)))
  (some (([] : List UInt8), (1 : UInt8)))
  (chk (decide (0 ≤ (20 : Int) ∧ (20 : Int) ≤ (20 : Int) ∧ (1 : Int) * (20 : Int) ≤ 140737488355328)) <|
  some (copyStr (List.replicate (20 : Int).toNat (0 : UInt8)) wp0.name, (0 : UInt8)))

/-- (*blk.work).ranges$1 -/
def blk_work_ranges_1 (arg0 : List UInt8) : Option (UInt64 × UInt64 × UInt64 × Bool × (List UInt8)) :=
  br (decide ((len arg0) < (16 : Int)))
  (some ((0 : UInt64), (0 : UInt64), (0 : UInt64), false, arg0))
  (chk (decide (0 ≤ (0 : Int) ∧ (0 : Int) ≤ (8 : Int) ∧ (8 : Int) ≤ len arg0)) <|
  ob (blk_number (sub arg0 (0 : Int) (8 : Int))) fun number1 =>
  chk (decide (0 ≤ (8 : Int) ∧ (8 : Int) ≤ (12 : Int) ∧ (12 : Int) ≤ len arg0)) <|
  ob (blk_number (sub arg0 (8 : Int) (12 : Int))) fun number2 =>
  chk (decide (0 ≤ (12 : Int) ∧ (12 : Int) ≤ (16 : Int) ∧ (16 : Int) ≤ len arg0)) <|
  ob (blk_number (sub arg0 (12 : Int) (16 : Int))) fun number3 =>
  chk (decide (0 ≤ (16 : Int) ∧ (16 : Int) ≤ (len arg0) ∧ (len arg0) ≤ len arg0)) <|
  some (number1, number2, number3, true, sub arg0 (16 : Int) (len arg0)))

def sectors_Store_ZeroL1B (atp1 : UInt64) (np2 : UInt64) (L1 : (List Sec) → (List (Int × Sec)) → Int → Option (Int × sectors_Store)) (l1 : List Sec) (map1 : List (Int × Sec)) (x1 : Int) : Option (Int × sectors_Store) :=
  br (decide (x1 < (i64 np2)))
  (ob (sectors_Store_put (sectors_Store.mk l1 map1) (wi ((i64 atp1) + x1)) Sec.z) fun put1 =>
  L1 put1.l put1.fresh (wi (x1 + (1 : Int))))
  (some ((0 : Int), (sectors_Store.mk l1 map1)))

def sectors_Store_ZeroL1 (atp1 : UInt64) (np2 : UInt64) : Nat → (List Sec) → (List (Int × Sec)) → Int → Option (Int × sectors_Store)
  | 0, _, _, _ => none
  | nf + 1, l1, map1, x1 => sectors_Store_ZeroL1B atp1 np2 (sectors_Store_ZeroL1 atp1 np2 nf) l1 map1 x1

/-- (*sectors.Store).Zero -/
def sectors_Store_Zero (sp0 : sectors_Store) (atp1 : UInt64) (np2 : UInt64) : Option (Int × sectors_Store) :=
  ob (sectors_Store_Has sp0 atp1 np2) fun has1 =>
  br ((!has1))
  (some ((5 : Int), sp0))
  (sectors_Store_ZeroL1 atp1 np2 fuel sp0.l sp0.fresh (0 : Int))

def blk_work_rangesL3B  (L3 : (List Sec) → (List (Int × Sec)) → (List UInt8) → UInt64 → UInt64 → Bool → Option ((List UInt8) × UInt8 × sectors_Store)) (l2 : List Sec) (map2 : List (Int × Sec)) (m2 : List UInt8) (at2 : UInt64) (n2 : UInt64) (ok2 : Bool) : Option ((List UInt8) × UInt8 × sectors_Store) :=
  br (ok2)
  (ob (sectors_Store_Zero (sectors_Store.mk l2 map2) at2 n2) fun zero1 =>
  ob (blk_work_ranges_1 m2) fun ranges5 =>
  L3 zero1.2.l zero1.2.fresh ranges5.2.2.2.2 ranges5.1 ranges5.2.1 ranges5.2.2.2.1)
  (some (([] : List UInt8), (0 : UInt8), (sectors_Store.mk l2 map2)))

def blk_work_rangesL3  : Nat → (List Sec) → (List (Int × Sec)) → (List UInt8) → UInt64 → UInt64 → Bool → Option ((List UInt8) × UInt8 × sectors_Store)
  | 0, _, _, _, _, _, _ => none
  | nf + 1, l2, map2, m2, at2, n2, ok2 => blk_work_rangesL3B (blk_work_rangesL3 nf) l2 map2 m2 at2 n2 ok2

def blk_work_rangesL2B (wp0 : blk_work) (flags : UInt64) (L2 : (List Sec) → (List (Int × Sec)) → (List UInt8) → Bool → UInt64 → UInt64 → UInt64 → Bool → Option ((List UInt8) × UInt8 × sectors_Store)) (l1 : List Sec) (map1 : List (Int × Sec)) (m1 : List UInt8) (odd1 : Bool) (at1 : UInt64) (n1 : UInt64) (f1 : UInt64) (ok1 : Bool) : Option ((List UInt8) × UInt8 × sectors_Store) :=
  br (ok1)
  (ob (sectors_Store_Has (sectors_Store.mk l1 map1) at1 n1) fun has3 =>
  br ((!has3))
  (some (([] : List UInt8), (1 : UInt8), (sectors_Store.mk l1 map1)))
  (br (odd1)
  (ob (blk_work_ranges_1 m1) fun ranges2 =>
  L2 l1 map1 ranges2.2.2.2.2 true ranges2.1 ranges2.2.1 ranges2.2.2.1 ranges2.2.2.2.1)
  (ob (blk_work_ranges_1 m1) fun ranges3 =>
  L2 l1 map1 ranges3.2.2.2.2 ((f1 &&& ~~~flags) != (0 : UInt64)) ranges3.1 ranges3.2.1 ranges3.2.2.1 ranges3.2.2.2.1)))
  (br (odd1)
  (some (([] : List UInt8), (2 : UInt8), (sectors_Store.mk l1 map1)))
  (ob (blk_work_ranges_1 wp0.data) fun ranges4 =>
  blk_work_rangesL3 fuel l1 map1 ranges4.2.2.2.2 ranges4.1 ranges4.2.1 ranges4.2.2.2.1))

def blk_work_rangesL2 (wp0 : blk_work) (flags : UInt64) : Nat → (List Sec) → (List (Int × Sec)) → (List UInt8) → Bool → UInt64 → UInt64 → UInt64 → Bool → Option ((List UInt8) × UInt8 × sectors_Store)
  | 0, _, _, _, _, _, _, _, _ => none
  | nf + 1, l1, map1, m1, odd1, at1, n1, f1, ok1 => blk_work_rangesL2B wp0 flags (blk_work_rangesL2 wp0 flags nf) l1 map1 m1 odd1 at1 n1 f1 ok1

def blk_work_rangesJ1 (wp0 : blk_work) (wp0_s : sectors_Store) (flags : UInt64) (x1 : Bool) : Option ((List UInt8) × UInt8 × sectors_Store) :=
  br (x1)
  (some (([] : List UInt8), (1 : UInt8), wp0_s))
  (ob (blk_work_ranges_1 wp0.data) fun ranges1 =>
  blk_work_rangesL2 wp0 flags fuel wp0_s.l wp0_s.fresh ranges1.2.2.2.2 false ranges1.1 ranges1.2.1 ranges1.2.2.1 ranges1.2.2.2.1)

/-- (*blk.work).ranges -/
def blk_work_ranges (wp0 : blk_work) (wp0_s : sectors_Store) (bit : Int) (flags : UInt64) : Option ((List UInt8) × UInt8 × sectors_Store) :=
  ob (feat_Has wp0.feats bit) fun has1 =>
  br ((!has1))
  (some (([] : List UInt8), (2 : UInt8), wp0_s))
  (ob (feat_Has wp0.feats (5 : Int)) fun has2 =>
  br (has2)
  (blk_work_rangesJ1 wp0 wp0_s flags has2)
  (br ((len wp0.data) == (0 : Int))
  (blk_work_rangesJ1 wp0 wp0_s flags ((len wp0.data) == (0 : Int)))
  (br ((remi (len wp0.data) (16 : Int)) != (0 : Int))
  (blk_work_rangesJ1 wp0 wp0_s flags ((remi (len wp0.data) (16 : Int)) != (0 : Int)))
  (blk_work_rangesJ1 wp0 wp0_s flags (decide ((len wp0.data) > (256 : Int)))))))

/-- (blk.kind).does$1 -/
def blk_kind_does_1 (wp0 : blk_work) (wp0_s : sectors_Store) : Option ((List UInt8) × UInt8 × sectors_Store) :=
  ob (blk_work_ranges wp0 wp0_s (13 : Int) (0 : UInt64)) fun ranges1 =>
  some (ranges1.1, ranges1.2.1, ranges1.2.2)

/-- (blk.kind).does$2 -/
def blk_kind_does_2 (wp0 : blk_work) (wp0_s : sectors_Store) : Option ((List UInt8) × UInt8 × sectors_Store) :=
  ob (blk_work_ranges wp0 wp0_s (14 : Int) (1 : UInt64)) fun ranges1 =>
  some (ranges1.1, ranges1.2.1, ranges1.2.2)

/-- (blk.kind).does$3 -/
def blk_kind_does_3 (arg0 : blk_work) (arg0_s : sectors_Store) : Option ((List UInt8) × UInt8) :=
  some (([] : List UInt8), (2 : UInt8))

/-- blk.Apply -/
def blk_Apply (sp0 : sectors_Store) (feats : UInt64) (name : List UInt8) (rp3 : Req) : Option ((List UInt8) × UInt8 × Int × sectors_Store) :=
  ob (blk_Bytes rp3) fun bytes1 =>
  br (bytes1.2 != (0 : Int))
  (some (([] : List UInt8), (0 : UInt8), bytes1.2, sp0))
  (ob (blk_kind_does rp3.Type_) fun does1 =>
  chk (decide (0 ≤ (16 : Int) ∧ (16 : Int) ≤ (len bytes1.1) ∧ (len bytes1.1) ≤ len bytes1.1)) <|
  br (does1 == 38)
  (ob (blk_work_in (blk_work.mk feats name (sub bytes1.1 (16 : Int) (len bytes1.1)) rp3.Sector (u64 rp3.Room)) sp0) fun in1 =>
  some (in1.1, in1.2.1, (0 : Int), in1.2.2))
  (br (does1 == 39)
  (ob (blk_work_out (blk_work.mk feats name (sub bytes1.1 (16 : Int) (len bytes1.1)) rp3.Sector (u64 rp3.Room)) sp0) fun out1 =>
  some (out1.1, out1.2.1, (0 : Int), out1.2.2))
  (br (does1 == 40)
  (ob (blk_work_sync (blk_work.mk feats name (sub bytes1.1 (16 : Int) (len bytes1.1)) rp3.Sector (u64 rp3.Room)) sp0) fun sync1 =>
  some (sync1.1, sync1.2.1, (0 : Int), sync1.2.2))
  (br (does1 == 41)
  (ob (blk_work_id (blk_work.mk feats name (sub bytes1.1 (16 : Int) (len bytes1.1)) rp3.Sector (u64 rp3.Room)) sp0) fun id1 =>
  some (id1.1, id1.2, (0 : Int), sp0))
  (br (does1 == 42)
  (ob (blk_kind_does_1 (blk_work.mk feats name (sub bytes1.1 (16 : Int) (len bytes1.1)) rp3.Sector (u64 rp3.Room)) sp0) fun does2 =>
  some (does2.1, does2.2.1, (0 : Int), does2.2.2))
  (br (does1 == 44)
  (ob (blk_kind_does_2 (blk_work.mk feats name (sub bytes1.1 (16 : Int) (len bytes1.1)) rp3.Sector (u64 rp3.Room)) sp0) fun does3 =>
  some (does3.1, does3.2.1, (0 : Int), does3.2.2))
  (chk (does1 == 45) <|
  ob (blk_kind_does_3 (blk_work.mk feats name (sub bytes1.1 (16 : Int) (len bytes1.1)) rp3.Sector (u64 rp3.Room)) sp0) fun does4 =>
  some (does4.1, does4.2, (0 : Int), sp0))))))))

/-- dumbwaiterlaw21.lives -/
def law21zlives  : Option Bool :=
  ob (sectors_New (8 : Int)) fun new1 =>
  onO new1.1
  (none)
  (fun store1 =>
  br (new1.2 != (0 : Int))
  (some false)
  (ob (blk_Apply store1 (4294992384 : UInt64) ([120] : List UInt8) (Req.mk (0 : UInt32) (7 : UInt64) ([] : List UInt8) (512 : Int) ([] : List Range))) fun apply1 =>
  ob (blk_Apply apply1.2.2.2 (4294992384 : UInt64) ([120] : List UInt8) (Req.mk (0 : UInt32) (8 : UInt64) ([] : List UInt8) (512 : Int) ([] : List Range))) fun apply2 =>
  ob (blk_Apply apply2.2.2.2 (4294992384 : UInt64) ([120] : List UInt8) (Req.mk (4 : UInt32) (0 : UInt64) ([] : List UInt8) (0 : Int) ([] : List Range))) fun apply3 =>
  chk (decide (0 ≤ (100 : Int) ∧ (100 : Int) ≤ (100 : Int) ∧ (1 : Int) * (100 : Int) ≤ 140737488355328)) <|
  lt (List.replicate (100 : Int).toNat (0 : UInt8)) fun z1 =>
  ob (blk_Apply apply3.2.2.2 (4294992384 : UInt64) ([120] : List UInt8) (Req.mk (1 : UInt32) (0 : UInt64) z1 (0 : Int) ([] : List Range))) fun apply4 =>
  ob (blk_Apply apply4.2.2.2 (4294992384 : UInt64) ([120] : List UInt8) (Req.mk (5 : UInt32) (0 : UInt64) ([] : List UInt8) (0 : Int) ([] : List Range))) fun apply5 =>
  br (apply1.2.2.1 == (0 : Int))
  (br (apply2.2.2.1 == (0 : Int))
  (br ((len apply1.1) == (512 : Int))
  (br (apply1.2.1 == (0 : UInt8))
  (br ((len apply2.1) == (0 : Int))
  (br (apply2.2.1 == (1 : UInt8))
  (br (apply3.2.1 == (0 : UInt8))
  (br (apply4.2.1 == (1 : UInt8))
  (some (apply5.2.1 == (2 : UInt8)))
  (some false))
  (some false))
  (some false))
  (some false))
  (some false))
  (some false))
  (some false))
  (some false)))

/-- dumbwaiterkit.LightReq -/
def kit_LightReq (rp0 : Req) (most : Int) : Option Bool :=
  br (decide ((len rp0.Data) ≤ most))
  (br (decide ((len rp0.Ranges) ≤ (40 : Int)))
  (some (decide (rp0.Room ≤ most)))
  (some false))
  (some false)

/-- dumbwaiterkit.Own -/
def kit_Own (b : List UInt8) : Option (List UInt8) :=
  chk (fits ([] : List UInt8).length b.length 1) <|
  some b

def sectors_OfL1B (b : List UInt8) (store1 : sectors_Store) (L1 : (List Sec) → (List (Int × Sec)) → Int → Option ((Option sectors_Store) × Int)) (l1 : List Sec) (map1 : List (Int × Sec)) (x1 : Int) : Option ((Option sectors_Store) × Int) :=
  br (decide (x1 < (len store1.l)))
  (ob (ix l1 x1) fun s1 =>
  chk (decide (0 ≤ (wi (x1 * (512 : Int))) ∧ (wi (x1 * (512 : Int))) ≤ (len b) ∧ (len b) ≤ len b)) <|
  L1 (l1.set (Int.toNat x1) (Sec.put s1 (sub b (wi (x1 * (512 : Int))) (len b)))) map1 (wi (x1 + (1 : Int))))
  (some ((some (sectors_Store.mk l1 map1)), (0 : Int)))

def sectors_OfL1 (b : List UInt8) (store1 : sectors_Store) : Nat → (List Sec) → (List (Int × Sec)) → Int → Option ((Option sectors_Store) × Int)
  | 0, _, _, _ => none
  | nf + 1, l1, map1, x1 => sectors_OfL1B b store1 (sectors_OfL1 b store1 nf) l1 map1 x1

/-- sectors.Of -/
def sectors_Of (b : List UInt8) : Option ((Option sectors_Store) × Int) :=
  br ((remi (len b) (512 : Int)) != (0 : Int))
  (some ((none : Option sectors_Store), (2 : Int)))
  (ob (sectors_New (quoi (len b) (512 : Int))) fun new1 =>
  onO new1.1
  (chk (new1.2 != (0 : Int)) <|
  some ((none : Option sectors_Store), new1.2))
  (fun store1 =>
  br (new1.2 != (0 : Int))
  (some ((none : Option sectors_Store), new1.2))
  (sectors_OfL1 b store1 fuel store1.l store1.fresh (0 : Int))))

/-- dumbwaiterkit.Req -/
def kit_Req (rp0 : Req) : Option Req :=
  ob (kit_Own rp0.Data) fun own1 =>
  chk (fits ([] : List Range).length rp0.Ranges.length 16) <|
  some (Req.mk rp0.Type_ rp0.Sector own1 rp0.Room rp0.Ranges)

/-- (*sectors.Store).Count -/
def sectors_Store_Count (sp0 : sectors_Store) : Option Int :=
  some (len sp0.l)

/-- (*sectors.Store).Image -/
def sectors_Store_Image (sp0 : sectors_Store) : Option ((List UInt8) × sectors_Store) :=
  ob (sectors_Store_Count sp0) fun count1 =>
  ob (sectors_Store_Read sp0 (0 : UInt64) count1) fun read1 =>
  some (read1.1, read1.2.2)

def law21zBlkFailsL3B (i1 : Int) (L2 : UInt32 → UInt64 → (List UInt8) → Int → (List Range) → (List UInt8) → (List UInt8) → (List UInt8) → Int → Option Bool) (r1 : Range) (L3 : UInt32 → UInt64 → (List UInt8) → Int → (List Range) → (List UInt8) → (List UInt8) → (List UInt8) → Int → Option Bool) (Type2 : UInt32) (Sector2 : UInt64) (Data2 : List UInt8) (Room2 : Int) (Ranges2 : List Range) (l4 : List UInt8) (l5 : List UInt8) (l6 : List UInt8) (k1 : Int) : Option Bool :=
  ob (ix Ranges2 i1) fun r2 =>
  br (decide (k1 < (wi ((i32 r2.Count) * (512 : Int)))))
  (ob (ix l6 (wi ((wi ((i64 r1.Sector) * (512 : Int))) + k1))) fun y1 =>
  L3 Type2 Sector2 Data2 Room2 Ranges2 l4 l5 (l6.set (wi ((wi ((i64 r1.Sector) * (512 : Int))) + k1)).toNat (0 : UInt8)) (wi (k1 + (1 : Int))))
  (L2 Type2 Sector2 Data2 Room2 Ranges2 l4 l5 l6 (wi (i1 + (1 : Int))))

def law21zBlkFailsL3 (i1 : Int) (L2 : UInt32 → UInt64 → (List UInt8) → Int → (List Range) → (List UInt8) → (List UInt8) → (List UInt8) → Int → Option Bool) (r1 : Range) : Nat → UInt32 → UInt64 → (List UInt8) → Int → (List Range) → (List UInt8) → (List UInt8) → (List UInt8) → Int → Option Bool
  | 0, _, _, _, _, _, _, _, _, _ => none
  | nf + 1, Type2, Sector2, Data2, Room2, Ranges2, l4, l5, l6, k1 => law21zBlkFailsL3B i1 L2 r1 (law21zBlkFailsL3 i1 L2 r1 nf) Type2 Sector2 Data2 Room2 Ranges2 l4 l5 l6 k1

def law21zBlkFailsL2B  (L2 : UInt32 → UInt64 → (List UInt8) → Int → (List Range) → (List UInt8) → (List UInt8) → (List UInt8) → Int → Option Bool) (Type1 : UInt32) (Sector1 : UInt64) (Data1 : List UInt8) (Room1 : Int) (Ranges1 : List Range) (l1 : List UInt8) (l2 : List UInt8) (l3 : List UInt8) (i1 : Int) : Option Bool :=
  br (decide (i1 < (len Ranges1)))
  (ob (ix Ranges1 i1) fun r1 =>
  law21zBlkFailsL3 i1 L2 r1 fuel Type1 Sector1 Data1 Room1 Ranges1 l1 l2 l3 (0 : Int))
  (br ((len Ranges1) == (0 : Int))
  (chk (l2 == l2) <|
  br ((len l1) == (0 : Int))
  (some true)
  (chk (Type1 == (8 : UInt32)) <|
  chk ((len l1) == (20 : Int)) <|
  some true))
  (chk (l2 == l3) <|
  br ((len l1) == (0 : Int))
  (some true)
  (chk (Type1 == (8 : UInt32)) <|
  chk ((len l1) == (20 : Int)) <|
  some true)))

def law21zBlkFailsL2  : Nat → UInt32 → UInt64 → (List UInt8) → Int → (List Range) → (List UInt8) → (List UInt8) → (List UInt8) → Int → Option Bool
  | 0, _, _, _, _, _, _, _, _, _ => none
  | nf + 1, Type1, Sector1, Data1, Room1, Ranges1, l1, l2, l3, i1 => law21zBlkFailsL2B (law21zBlkFailsL2 nf) Type1 Sector1 Data1 Room1 Ranges1 l1 l2 l3 i1

def law21zBlkFailsJ1 (rp0 : Req) (apply1 : ((List UInt8) × UInt8 × Int × sectors_Store)) (image1 : ((List UInt8) × sectors_Store)) (own2 : (List UInt8)) (x1 : Bool) : Option Bool :=
  br (x1)
  (law21zBlkFailsL2 fuel rp0.Type_ rp0.Sector rp0.Data rp0.Room rp0.Ranges apply1.1 image1.1 own2 (0 : Int))
  (chk (image1.1 == own2) <|
  br ((len apply1.1) == (0 : Int))
  (some true)
  (chk (rp0.Type_ == (8 : UInt32)) <|
  chk ((len apply1.1) == (20 : Int)) <|
  some true))

/-- dumbwaiterlaw21.BlkFails -/
def law21zBlkFails (rp0 : Req) (image : List UInt8) (feats : UInt64) : Option Bool :=
  ob (law21zlives) fun lives1 =>
  chk (!((!lives1))) <|
  ob (kit_LightReq rp0 (6000 : Int)) fun lightr1 =>
  br ((!lightr1))
  (some true)
  (br (decide ((len image) > (6000 : Int)))
  (some true)
  (ob (kit_Own image) fun own1 =>
  ob (sectors_Of own1) fun of1 =>
  onO of1.1
  (chk (of1.2 != (0 : Int)) <|
  some true)
  (fun store1 =>
  br (of1.2 != (0 : Int))
  (some true)
  (ob (kit_Req rp0) fun req2 =>
  ob (blk_Apply store1 feats ([98, 111, 120] : List UInt8) req2) fun apply1 =>
  ob (sectors_Store_Image apply1.2.2.2) fun image1 =>
  br (apply1.2.2.1 != (0 : Int))
  (chk ((len apply1.1) == (0 : Int)) <|
  chk (image1.1 == image) <|
  some true)
  (br (apply1.2.1 != (0 : UInt8))
  (chk ((len apply1.1) == (0 : Int)) <|
  chk (image1.1 == image) <|
  some true)
  (ob (kit_Own image) fun own2 =>
  br (rp0.Type_ == (0 : UInt32))
  (chk (image1.1 == image) <|
  chk (decide (0 ≤ (wi ((i64 rp0.Sector) * (512 : Int))) ∧ (wi ((i64 rp0.Sector) * (512 : Int))) ≤ (wi ((wi ((i64 rp0.Sector) * (512 : Int))) + rp0.Room)) ∧ (wi ((wi ((i64 rp0.Sector) * (512 : Int))) + rp0.Room)) ≤ len image)) <|
  chk (apply1.1 == (sub image (wi ((i64 rp0.Sector) * (512 : Int))) (wi ((wi ((i64 rp0.Sector) * (512 : Int))) + rp0.Room)))) <|
  some true)
  (br (rp0.Type_ == (1 : UInt32))
  (br (decide ((len rp0.Data) > (0 : Int)))
  (chk (decide (0 ≤ (wi ((i64 rp0.Sector) * (512 : Int))) ∧ (wi ((i64 rp0.Sector) * (512 : Int))) ≤ (len own2) ∧ (len own2) ≤ len own2)) <|
  chk (image1.1 == (copyAt own2 (wi ((i64 rp0.Sector) * (512 : Int))) (len own2) rp0.Data)) <|
  br ((len apply1.1) == (0 : Int))
  (some true)
  (chk (rp0.Type_ == (8 : UInt32)) <|
  chk ((len apply1.1) == (20 : Int)) <|
  some true))
  (chk (image1.1 == own2) <|
  br ((len apply1.1) == (0 : Int))
  (some true)
  (chk (rp0.Type_ == (8 : UInt32)) <|
  chk ((len apply1.1) == (20 : Int)) <|
  some true)))
  (br (rp0.Type_ == (11 : UInt32))
  (law21zBlkFailsJ1 rp0 apply1 image1 own2 (rp0.Type_ == (11 : UInt32)))
  (law21zBlkFailsJ1 rp0 apply1 image1 own2 (rp0.Type_ == (13 : UInt32)))))))))))

end Go.Proofs.Ytjfdamiilndgeaa
