/- What the functions reckon, as plain words. No statement of the seat is proved here; no condition. -/
import Derived.Test.YtlofegfaphijpaaTy
namespace Go.Proofs.Ytlofegfaphijpaa

def ref_Power01L1B (np0 : Int) (L1 : Int → Option Bool) (k1 : Int) : Option Bool :=
  br (decide (k1 ≤ (32768 : Int)))
  (br (k1 == np0)
  (some true)
  (L1 (wi ((2 : Int) * k1))))
  (some false)

def ref_Power01L1 (np0 : Int) : Nat → Int → Option Bool
  | 0, _ => none
  | nf + 1, k1 => ref_Power01L1B np0 (ref_Power01L1 np0 nf) k1

/-- dumbwaiterref01.Power -/
def ref_Power01 (np0 : Int) : Option Bool :=
  ref_Power01L1 np0 fuel (1 : Int)

/-- dumbwaiterref04.size -/
def ref_size04 (packed : Bool) (np1 : Int) : Option Bool :=
  br (decide (np1 ≥ (1 : Int)))
  (br (decide (np1 ≤ (32768 : Int)))
  (br (packed)
  (some true)
  (ob (ref_Power01 np1) fun power1 =>
  some power1))
  (some false))
  (some false)

/-- dumbwaiterref04.Parts -/
def ref_Parts04 (rp0 : Rings) : Option (UInt64 × UInt64 × UInt64) :=
  ob (ref_size04 rp0.Packed rp0.Size) fun size1 =>
  br ((!size1))
  (some ((0 : UInt64), (0 : UInt64), (0 : UInt64)))
  (br (rp0.Packed)
  (some ((16 : UInt64) * (u64 rp0.Size), (4 : UInt64), (4 : UInt64)))
  (some ((16 : UInt64) * (u64 rp0.Size), (6 : UInt64) + ((2 : UInt64) * (u64 rp0.Size)), (6 : UInt64) + ((8 : UInt64) * (u64 rp0.Size)))))

/-- dumbwaiterref01.Align -/
def ref_Align01 (np0 : UInt64) (top1 : UInt64) : Option (UInt64 × Int) :=
  br (top1 == (0 : UInt64))
  (some ((0 : UInt64), (2 : Int)))
  (br ((top1 &&& (top1 - (1 : UInt64))) != (0 : UInt64))
  (some ((0 : UInt64), (2 : Int)))
  (chk (!(top1 == 0)) <|
  br ((np0 % top1) == (0 : UInt64))
  (some (np0, (0 : Int)))
  (chk (!(top1 == 0)) <|
  br (decide (((np0 - (np0 % top1)) + top1) < np0))
  (some ((0 : UInt64), (2 : Int)))
  (some ((np0 - (np0 % top1)) + top1, (0 : Int))))))

/-- dumbwaiterref04.common -/
def ref_common04 (ap0 : UInt64) (np1 : UInt64) (b : UInt64) (m : UInt64) : Option Bool :=
  br (decide (np1 > (0 : UInt64)))
  (br (decide (m > (0 : UInt64)))
  (br (decide (ap0 ≤ b))
  (br (decide ((b - ap0) < np1))
  (some true)
  (br (decide (b < ap0))
  (some (decide ((ap0 - b) < m)))
  (some false)))
  (br (decide (b < ap0))
  (some (decide ((ap0 - b) < m)))
  (some false)))
  (some false))
  (some false)

def ref_Check04L3B (l1 : List UInt64) (l2 : List UInt64) (i1 : Int) (L2 : Int → Option Int) (L3 : Int → Option Int) (k1 : Int) : Option Int :=
  br (decide (k1 < i1))
  (ob (ix l1 i1) fun y6 =>
  ob (ix l2 i1) fun y7 =>
  ob (ix l1 k1) fun y8 =>
  ob (ix l2 k1) fun y9 =>
  ob (ref_common04 y6 y7 y8 y9) fun common1 =>
  br (common1)
  (some (2 : Int))
  (L3 (wi (k1 + (1 : Int)))))
  (L2 (wi (i1 + (1 : Int))))

def ref_Check04L3 (l1 : List UInt64) (l2 : List UInt64) (i1 : Int) (L2 : Int → Option Int) : Nat → Int → Option Int
  | 0, _ => none
  | nf + 1, k1 => ref_Check04L3B l1 l2 i1 L2 (ref_Check04L3 l1 l2 i1 L2 nf) k1

def ref_Check04L2B (l1 : List UInt64) (l2 : List UInt64) (l3 : List UInt64) (L2 : Int → Option Int) (i1 : Int) : Option Int :=
  br (decide (i1 < (3 : Int)))
  (ob (ix l1 i1) fun y1 =>
  ob (ix l3 i1) fun y2 =>
  chk (!(y2 == 0)) <|
  br ((y1 % y2) != (0 : UInt64))
  (some (2 : Int))
  (ob (ix l1 i1) fun y3 =>
  ob (ix l2 i1) fun y4 =>
  ob (ix l1 i1) fun y5 =>
  br (decide ((y3 + (y4 - (1 : UInt64))) < y5))
  (some (2 : Int))
  (ref_Check04L3 l1 l2 i1 L2 fuel (0 : Int))))
  (some (0 : Int))

def ref_Check04L2 (l1 : List UInt64) (l2 : List UInt64) (l3 : List UInt64) : Nat → Int → Option Int
  | 0, _ => none
  | nf + 1, i1 => ref_Check04L2B l1 l2 l3 (ref_Check04L2 l1 l2 l3 nf) i1

def ref_Check04J1  (l1 : List UInt64) (l2 : List UInt64) (l3 : List UInt64) : Option Int :=
  ref_Check04L2 l1 l2 l3 fuel (0 : Int)

/-- dumbwaiterref04.Check -/
def ref_Check04 (rp0 : Rings) : Option Int :=
  ob (ref_Parts04 rp0) fun parts1 =>
  br (parts1.1 == (0 : UInt64))
  (some (2 : Int))
  (br (rp0.Packed)
  (ob (ix [(16 : UInt64), (2 : UInt64), (4 : UInt64)] (1 : Int)) fun y10 =>
  ref_Check04J1 [rp0.Desc, rp0.Driver, rp0.Device] [parts1.1, parts1.2.1, parts1.2.2] ([(16 : UInt64), (2 : UInt64), (4 : UInt64)].set (1 : Int).toNat (4 : UInt64)))
  (ref_Check04J1 [rp0.Desc, rp0.Driver, rp0.Device] [parts1.1, parts1.2.1, parts1.2.2] [(16 : UInt64), (2 : UInt64), (4 : UInt64)]))

def ref_Place04J1 (packed : Bool) (np1 : Int) (base : UInt64) (parts1 : (UInt64 × UInt64 × UInt64)) (to1 : UInt64) : Option (Rings × UInt64 × Int) :=
  ob (ref_Align01 base (16 : UInt64)) fun align1 =>
  ob (ref_Align01 (align1.1 + parts1.1) to1) fun align2 =>
  ob (ref_Align01 (align2.1 + parts1.2.1) (4 : UInt64)) fun align3 =>
  br (align1.2 != (0 : Int))
  (some ((Rings.mk false (0 : Int) (0 : UInt64) (0 : UInt64) (0 : UInt64)), (0 : UInt64), (2 : Int)))
  (br (align2.2 != (0 : Int))
  (some ((Rings.mk false (0 : Int) (0 : UInt64) (0 : UInt64) (0 : UInt64)), (0 : UInt64), (2 : Int)))
  (br (align3.2 != (0 : Int))
  (some ((Rings.mk false (0 : Int) (0 : UInt64) (0 : UInt64) (0 : UInt64)), (0 : UInt64), (2 : Int)))
  (br (decide ((align1.1 + parts1.1) < align1.1))
  (some ((Rings.mk false (0 : Int) (0 : UInt64) (0 : UInt64) (0 : UInt64)), (0 : UInt64), (2 : Int)))
  (br (decide ((align2.1 + parts1.2.1) < align2.1))
  (some ((Rings.mk false (0 : Int) (0 : UInt64) (0 : UInt64) (0 : UInt64)), (0 : UInt64), (2 : Int)))
  (br (decide ((align3.1 + (parts1.2.2 - (1 : UInt64))) < align3.1))
  (some ((Rings.mk false (0 : Int) (0 : UInt64) (0 : UInt64) (0 : UInt64)), (0 : UInt64), (2 : Int)))
  (ob (ref_Check04 (Rings.mk packed np1 align1.1 align2.1 align3.1)) fun check1 =>
  br (check1 != (0 : Int))
  (some ((Rings.mk false (0 : Int) (0 : UInt64) (0 : UInt64) (0 : UInt64)), (0 : UInt64), (2 : Int)))
  (some ((Rings.mk packed np1 align1.1 align2.1 align3.1), (align3.1 + parts1.2.2) - base, (0 : Int)))))))))

/-- dumbwaiterref04.Place -/
def ref_Place04 (packed : Bool) (np1 : Int) (base : UInt64) : Option (Rings × UInt64 × Int) :=
  ob (ref_Parts04 (Rings.mk packed np1 (0 : UInt64) (0 : UInt64) (0 : UInt64))) fun parts1 =>
  br (parts1.1 == (0 : UInt64))
  (some ((Rings.mk false (0 : Int) (0 : UInt64) (0 : UInt64) (0 : UInt64)), (0 : UInt64), (2 : Int)))
  (br (packed)
  (ref_Place04J1 packed np1 base parts1 (4 : UInt64))
  (ref_Place04J1 packed np1 base parts1 (2 : UInt64)))

def gmem_CheckL1B (l : List Region) (L1 : UInt64 → Int → Option Int) (room1 : UInt64) (x1 : Int) : Option Int :=
  br (decide (x1 < (len l)))
  (ob (ix l x1) fun r1 =>
  br (decide (r1.Len < (1 : UInt64)))
  (some (2 : Int))
  (br (decide (r1.Len > room1))
  (some (2 : Int))
  (br (decide ((r1.Len - (1 : UInt64)) > ((18446744073709551615 : UInt64) - r1.At)))
  (some (2 : Int))
  (br (decide (x1 > (0 : Int)))
  (ob (ix l (wi (x1 - (1 : Int)))) fun r2 =>
  br (decide (r1.At ≤ r2.At))
  (some (2 : Int))
  (br (decide ((r1.At - r2.At) < r2.Len))
  (some (2 : Int))
  (L1 (room1 - r1.Len) (wi (x1 + (1 : Int))))))
  (L1 (room1 - r1.Len) (wi (x1 + (1 : Int))))))))
  (some (0 : Int))

def gmem_CheckL1 (l : List Region) : Nat → UInt64 → Int → Option Int
  | 0, _, _ => none
  | nf + 1, room1, x1 => gmem_CheckL1B l (gmem_CheckL1 l nf) room1 x1

/-- gmem.Check -/
def gmem_Check (l : List Region) : Option Int :=
  br (decide ((len l) > (16 : Int)))
  (some (2 : Int))
  (gmem_CheckL1 l fuel (1048576 : UInt64) (0 : Int))

/-- slices.Clone[[]api.Region,api.Region] -/
def slices_Clone_apiRegionapiRegion (sp0 : List Region) : Option (List Region) :=
  chk (fits ([] : List Region).length sp0.length 16) <|
  some sp0

def gmem_NewL1B (l : List Region) (region1 : (List Region)) (L1 : (List (List UInt8)) → Int → Option ((Option gmem_Mem) × Int)) (rows1 : List (List UInt8)) (x1 : Int) : Option ((Option gmem_Mem) × Int) :=
  br (decide (x1 < (len l)))
  (ob (ix l x1) fun r1 =>
  chk (decide (0 ≤ (r1.Len.toNat : Int) ∧ (r1.Len.toNat : Int) ≤ (r1.Len.toNat : Int) ∧ (1 : Int) * (r1.Len.toNat : Int) ≤ 140737488355328)) <|
  ob (ix rows1 x1) fun row1 =>
  L1 (rows1.set (Int.toNat x1) (List.replicate (Int.toNat (r1.Len.toNat : Int)) (0 : UInt8))) (wi (x1 + (1 : Int))))
  (some ((some (gmem_Mem.mk region1 rows1)), (0 : Int)))

def gmem_NewL1 (l : List Region) (region1 : (List Region)) : Nat → (List (List UInt8)) → Int → Option ((Option gmem_Mem) × Int)
  | 0, _, _ => none
  | nf + 1, rows1, x1 => gmem_NewL1B l region1 (gmem_NewL1 l region1 nf) rows1 x1

/-- gmem.New -/
def gmem_New (l : List Region) : Option ((Option gmem_Mem) × Int) :=
  ob (gmem_Check l) fun check1 =>
  br (check1 != (0 : Int))
  (some ((none : Option gmem_Mem), check1))
  (ob (slices_Clone_apiRegionapiRegion l) fun region1 =>
  chk (decide (0 ≤ (len l) ∧ (len l) ≤ (wi ((len l) + (1 : Int))) ∧ (24 : Int) * (wi ((len l) + (1 : Int))) ≤ 140737488355328)) <|
  gmem_NewL1 l region1 fuel (List.replicate (Int.toNat (len l)) [] : List (List UInt8)) (0 : Int))

def ref_put03L1B (vp1 : UInt64) (np2 : Int) (L1 : (List UInt8) → Int → Option (List UInt8)) (b1 : List UInt8) (i1 : Int) : Option (List UInt8) :=
  br (decide (i1 < np2))
  (chk (fits b1.length [(shr64 vp1 ((u64 (wi ((8 : Int) * i1))).toNat)).toUInt8].length 1) <|
  L1 (b1 ++ [(shr64 vp1 ((u64 (wi ((8 : Int) * i1))).toNat)).toUInt8]) (wi (i1 + (1 : Int))))
  (some b1)

def ref_put03L1 (vp1 : UInt64) (np2 : Int) : Nat → (List UInt8) → Int → Option (List UInt8)
  | 0, _, _ => none
  | nf + 1, b1, i1 => ref_put03L1B vp1 np2 (ref_put03L1 vp1 np2 nf) b1 i1

/-- dumbwaiterref03.put -/
def ref_put03 (b : List UInt8) (vp1 : UInt64) (np2 : Int) : Option (List UInt8) :=
  ref_put03L1 vp1 np2 fuel b (0 : Int)

/-- dumbwaiterref03.Bytes -/
def ref_Bytes03 (dp0 : Desc) : Option (List UInt8) :=
  ob (ref_put03 ([] : List UInt8) dp0.Addr (8 : Int)) fun put1 =>
  ob (ref_put03 put1 dp0.Len.toUInt64 (4 : Int)) fun put2 =>
  ob (ref_put03 put2 dp0.Flags.toUInt64 (2 : Int)) fun put3 =>
  ob (ref_put03 put3 dp0.Next.toUInt64 (2 : Int)) fun put4 =>
  some put4

/-- (*gmem.Mem).made -/
def gmem_Mem_made (m : gmem_Mem) : Option Bool :=
  some true

/-- (*gmem.Mem).bytes$1 -/
def gmem_Mem_bytes_1 (ip0 : Int) (arg1 : gmem_Mem) (arg2 : UInt64) : Option Bool :=
  ob (ix arg1.l ip0) fun r1 =>
  ob (ix arg1.l ip0) fun r2 =>
  some (decide (((r1.Len - (1 : UInt64)) + r2.At) ≥ arg2))

def sort_SearchFgmem_Mem_bytes_1L1B (fc0 : gmem_Mem) (fc1 : UInt64) (L1 : Int → Int → Option Int) (i1 : Int) (j1 : Int) : Option Int :=
  br (decide (i1 < j1))
  (ob (gmem_Mem_bytes_1 (i64 (shr64 (u64 (wi (i1 + j1))) ((1 : UInt64).toNat))) fc0 fc1) fun bytes1 =>
  br ((!bytes1))
  (L1 (wi ((i64 (shr64 (u64 (wi (i1 + j1))) ((1 : UInt64).toNat))) + (1 : Int))) j1)
  (L1 i1 (i64 (shr64 (u64 (wi (i1 + j1))) ((1 : UInt64).toNat)))))
  (some i1)

def sort_SearchFgmem_Mem_bytes_1L1 (fc0 : gmem_Mem) (fc1 : UInt64) : Nat → Int → Int → Option Int
  | 0, _, _ => none
  | nf + 1, i1, j1 => sort_SearchFgmem_Mem_bytes_1L1B fc0 fc1 (sort_SearchFgmem_Mem_bytes_1L1 fc0 fc1 nf) i1 j1

/-- sort.Search -/
def sort_SearchFgmem_Mem_bytes_1 (np0 : Int) (fc0 : gmem_Mem) (fc1 : UInt64) : Option Int :=
  sort_SearchFgmem_Mem_bytes_1L1 fc0 fc1 fuel (0 : Int) np0

/-- (*gmem.Mem).bytes -/
def gmem_Mem_bytes (m : gmem_Mem) (atp1 : UInt64) (np2 : UInt64) : Option (Option (Int × Int × Int)) :=
  br (decide (np2 < (1 : UInt64)))
  (some (none : Option (Int × Int × Int)))
  (ob (sort_SearchFgmem_Mem_bytes_1 (len m.l) m atp1) fun search1 =>
  br (search1 == (len m.l))
  (some (none : Option (Int × Int × Int)))
  (ob (ix m.l search1) fun r1 =>
  br (decide (atp1 < r1.At))
  (some (none : Option (Int × Int × Int)))
  (ob (ix m.l search1) fun r2 =>
  ob (ix m.l search1) fun r3 =>
  br (decide (np2 > (r3.Len - (atp1 - r2.At))))
  (some (none : Option (Int × Int × Int)))
  (ob (ix m.b search1) fun row1 =>
  chk (decide (0 ≤ ((atp1 - r2.At).toNat : Int) ∧ ((atp1 - r2.At).toNat : Int) ≤ (((atp1 - r2.At) + np2).toNat : Int) ∧ (((atp1 - r2.At) + np2).toNat : Int) ≤ len row1)) <|
  some (some (search1, ((atp1 - r2.At).toNat : Int), (((atp1 - r2.At) + np2).toNat : Int)))))))

/-- (*gmem.Mem).Write -/
def gmem_Mem_Write (m : gmem_Mem) (atp1 : UInt64) (arg2 : List UInt8) : Option (Int × (List (List UInt8))) :=
  ob (gmem_Mem_made m) fun made1 =>
  br ((len arg2) == (0 : Int))
  (some ((0 : Int), m.b))
  (ob (gmem_Mem_bytes m atp1 (u64 (len arg2))) fun bytes1 =>
  onO bytes1
  (some ((5 : Int), m.b))
  (fun w1 =>
  ob (ix m.b w1.1) fun row1 =>
  chk (decide (0 ≤ w1.2.1 ∧ w1.2.1 ≤ w1.2.2 ∧ w1.2.2 ≤ len row1)) <|
  chk (decide (w1.2.1 < w1.2.2)) <|
  some ((0 : Int), m.b.set (Int.toNat w1.1) (copyAt row1 w1.2.1 w1.2.2 arg2))))

/-- slices.Clone[[]byte,byte] -/
def slices_Clone_bytebyte (sp0 : List UInt8) : Option (List UInt8) :=
  chk (fits ([] : List UInt8).length sp0.length 1) <|
  some sp0

/-- (*gmem.Mem).Read -/
def gmem_Mem_Read (m : gmem_Mem) (atp1 : UInt64) (np2 : Int) : Option ((List UInt8) × Int) :=
  ob (gmem_Mem_made m) fun made1 =>
  br (decide (np2 < (0 : Int)))
  (some (([] : List UInt8), (2 : Int)))
  (br (np2 == (0 : Int))
  (some (([] : List UInt8), (0 : Int)))
  (ob (gmem_Mem_bytes m atp1 (u64 np2)) fun bytes1 =>
  onO bytes1
  (some (([] : List UInt8), (5 : Int)))
  (fun w1 =>
  ob (ix m.b w1.1) fun row1 =>
  chk (decide (0 ≤ w1.2.1 ∧ w1.2.1 ≤ w1.2.2 ∧ w1.2.2 ≤ len row1)) <|
  chk (decide (w1.2.1 < w1.2.2)) <|
  ob (slices_Clone_bytebyte (sub row1 w1.2.1 w1.2.2)) fun cloneb1 =>
  some (cloneb1, (0 : Int)))))

/-- serial.isSize -/
def serial_isSize (np0 : Int) : Option Bool :=
  br (decide (np0 ≥ (1 : Int)))
  (some (decide (np0 ≤ (32768 : Int))))
  (some false)

/-- serial.Power -/
def serial_Power (np0 : Int) : Option Bool :=
  ob (serial_isSize np0) fun issize1 =>
  br (issize1)
  (some ((andi np0 (wi (np0 - (1 : Int)))) == (0 : Int)))
  (some false)

/-- layout.isSize -/
def layout_isSize (rp0 : Rings) : Option Bool :=
  br (rp0.Packed)
  (br (decide (rp0.Size ≥ (1 : Int)))
  (some (decide (rp0.Size ≤ (32768 : Int))))
  (some false))
  (ob (serial_Power rp0.Size) fun power1 =>
  some power1)

/-- layout.Parts -/
def layout_Parts (rp0 : Rings) : Option (UInt64 × UInt64 × UInt64) :=
  ob (layout_isSize rp0) fun issize1 =>
  br ((!issize1))
  (some ((0 : UInt64), (0 : UInt64), (0 : UInt64)))
  (br (rp0.Packed)
  (some ((16 : UInt64) * (u64 rp0.Size), (4 : UInt64), (4 : UInt64)))
  (some ((16 : UInt64) * (u64 rp0.Size), (6 : UInt64) + ((2 : UInt64) * (u64 rp0.Size)), (6 : UInt64) + ((8 : UInt64) * (u64 rp0.Size)))))

/-- layout.spans -/
def layout_spans (rp0 : Rings) : Option (A3 (A2 UInt64)) :=
  ob (layout_Parts rp0) fun parts1 =>
  some (A3.mk (A2.mk rp0.Desc parts1.1) (A2.mk rp0.Driver parts1.2.1) (A2.mk rp0.Device parts1.2.2))

/-- layout.steps -/
def layout_steps (rp0 : Rings) : Option (A3 UInt64) :=
  br (rp0.Packed)
  (some (A3.mk (16 : UInt64) (4 : UInt64) (4 : UInt64)))
  (some (A3.mk (16 : UInt64) (2 : UInt64) (4 : UInt64)))

/-- layout.beyond -/
def layout_beyond (atp0 : UInt64) (np1 : UInt64) : Option Bool :=
  br (decide (np1 > (0 : UInt64)))
  (some (decide ((np1 - (1 : UInt64)) > ((18446744073709551615 : UInt64) - atp0))))
  (some false)

/-- layout.common -/
def layout_common (atp0 : UInt64) (np1 : UInt64) (top2 : UInt64) (m : UInt64) : Option Bool :=
  br (decide (atp0 ≤ top2))
  (some (decide ((top2 - atp0) < np1)))
  (some (decide ((atp0 - top2) < m)))

/-- layout.Check -/
def layout_Check (rp0 : Rings) : Option Int :=
  ob (layout_isSize rp0) fun issize1 =>
  br ((!issize1))
  (some (2 : Int))
  (ob (layout_spans rp0) fun spans1 =>
  ob (layout_steps rp0) fun steps1 =>
  chk (!(steps1.a0 == 0)) <|
  br ((spans1.a0.a0 % steps1.a0) != (0 : UInt64))
  (some (2 : Int))
  (ob (layout_beyond spans1.a0.a0 spans1.a0.a1) fun beyond1 =>
  br (beyond1)
  (some (2 : Int))
  (chk (!(steps1.a1 == 0)) <|
  br ((spans1.a1.a0 % steps1.a1) != (0 : UInt64))
  (some (2 : Int))
  (ob (layout_beyond spans1.a1.a0 spans1.a1.a1) fun beyond2 =>
  br (beyond2)
  (some (2 : Int))
  (ob (layout_common spans1.a1.a0 spans1.a1.a1 spans1.a0.a0 spans1.a0.a1) fun common1 =>
  br (common1)
  (some (2 : Int))
  (chk (!(steps1.a2 == 0)) <|
  br ((spans1.a2.a0 % steps1.a2) != (0 : UInt64))
  (some (2 : Int))
  (ob (layout_beyond spans1.a2.a0 spans1.a2.a1) fun beyond3 =>
  br (beyond3)
  (some (2 : Int))
  (ob (layout_common spans1.a2.a0 spans1.a2.a1 spans1.a0.a0 spans1.a0.a1) fun common2 =>
  br (common2)
  (some (2 : Int))
  (ob (layout_common spans1.a2.a0 spans1.a2.a1 spans1.a1.a0 spans1.a1.a1) fun common3 =>
  br (common3)
  (some (2 : Int))
  (some (0 : Int)))))))))))

/-- walk.refuse -/
def walk_refuse (m : gmem_Mem) (rp1 : Rings) (packed : Bool) : Option Int :=
  ob (gmem_Mem_Read m (0 : UInt64) (0 : Int)) fun read1 =>
  br (read1.2 != (0 : Int))
  (some read1.2)
  (ob (layout_Check rp1) fun check1 =>
  br (check1 != (0 : Int))
  (some check1)
  (br (rp1.Packed != packed)
  (some (2 : Int))
  (some (0 : Int))))

def desc_raw_getL1B (rp0 : List UInt8) (atp1 : Int) (np2 : Int) (L1 : UInt64 → Int → Option UInt64) (v1 : UInt64) (x1 : Int) : Option UInt64 :=
  br (decide (x1 < np2))
  (chk (decide (0 ≤ (wi (atp1 + x1)) ∧ (wi (atp1 + x1)) < (16 : Int))) <|
  ob (ix rp0 (wi (atp1 + x1))) fun u1 =>
  chk (decide (0 ≤ wi ((8 : Int) * x1))) <|
  L1 (v1 ||| (shl64 u1.toUInt64 ((wi ((8 : Int) * x1)).toNat))) (wi (x1 + (1 : Int))))
  (some v1)

def desc_raw_getL1 (rp0 : List UInt8) (atp1 : Int) (np2 : Int) : Nat → UInt64 → Int → Option UInt64
  | 0, _, _ => none
  | nf + 1, v1, x1 => desc_raw_getL1B rp0 atp1 np2 (desc_raw_getL1 rp0 atp1 np2 nf) v1 x1

/-- (*desc.raw).get -/
def desc_raw_get (rp0 : List UInt8) (atp1 : Int) (np2 : Int) : Option UInt64 :=
  desc_raw_getL1 rp0 atp1 np2 fuel (0 : UInt64) (0 : Int)

/-- desc.Read -/
def desc_Read (b : List UInt8) : Option (Desc × Int) :=
  br ((len b) != (16 : Int))
  (some ((Desc.mk (0 : UInt64) (0 : UInt32) (0 : UInt16) (0 : UInt16)), (4 : Int)))
  (chk (Nat.ble 16 b.length) <|
  chk ((b.take 16).length == 16) <|
  ob (desc_raw_get (b.take 16) (0 : Int) (8 : Int)) fun get1 =>
  ob (desc_raw_get (b.take 16) (8 : Int) (4 : Int)) fun get2 =>
  ob (desc_raw_get (b.take 16) (12 : Int) (2 : Int)) fun get3 =>
  ob (desc_raw_get (b.take 16) (14 : Int) (2 : Int)) fun get4 =>
  some ((Desc.mk get1 get2.toUInt32 get3.toUInt16 get4.toUInt16), (0 : Int)))

/-- (*gmem.Mem).Has -/
def gmem_Mem_Has (m : gmem_Mem) (atp1 : UInt64) (np2 : UInt64) : Option Bool :=
  ob (gmem_Mem_made m) fun made1 =>
  ob (gmem_Mem_bytes m atp1 np2) fun bytes1 =>
  onO bytes1
  (some false)
  (fun w1 =>
  ob (ix m.b w1.1) fun row1 =>
  chk (decide (0 ≤ w1.2.1 ∧ w1.2.1 ≤ w1.2.2 ∧ w1.2.2 ≤ len row1)) <|
  chk (decide (w1.2.1 < w1.2.2)) <|
  some true)

/-- walk.entries -/
def walk_entries (m : gmem_Mem) (atp1 : UInt64) (np2 : UInt32) : Option (Int × Int) :=
  br (np2 == (0 : UInt32))
  (some ((0 : Int), (4 : Int)))
  (br ((np2 % (16 : UInt32)) != (0 : UInt32))
  (some ((0 : Int), (4 : Int)))
  (br (decide ((np2 / (16 : UInt32)) > (64 : UInt32)))
  (some ((0 : Int), (4 : Int)))
  (ob (gmem_Mem_Has m atp1 np2.toUInt64) fun has1 =>
  br ((!has1))
  (some ((0 : Int), (5 : Int)))
  (some (i32 (np2 / (16 : UInt32)), (0 : Int))))))

/-- walk.made -/
def walk_made (atp0 : UInt64) (np1 : UInt32) (flags : UInt16) : Option Seg :=
  some (Seg.mk atp0 np1 ((flags &&& (2 : UInt16)) != (0 : UInt16)))

def walk_split_1ct3L1B (atp0 : UInt64) (size : Int) (arg5 : gmem_Mem) (L1 : Int → Int → Int → Bool → (List Seg) → (List (Int × Bool)) → Option (Int × Int × Bool × (List Seg))) (k1 : Int) (m1 : Int) (m2 : Int) (m3 : Bool) (l1 : List Seg) (map1 : List (Int × Bool)) : Option (Int × Int × Bool × (List Seg)) :=
  br (mget false k1 map1)
  (some ((4 : Int), m2, m3, l1))
  (br (decide (k1 < (0 : Int)))
  (some ((4 : Int), m2, m3, l1))
  (br (decide (k1 ≥ size))
  (some ((4 : Int), m2, m3, l1))
  (ob (gmem_Mem_Read arg5 (atp0 + ((16 : UInt64) * (u64 k1))) (16 : Int)) fun read1 =>
  br (read1.2 != (0 : Int))
  (some ((5 : Int), m2, m3, l1))
  (ob (desc_Read read1.1) fun read2 =>
  br ((read2.1.Flags &&& (4 : UInt16)) != (0 : UInt16))
  (some ((4 : Int), wi (m2 + (1 : Int)), m3, l1))
  (ob (walk_made read2.1.Addr read2.1.Len read2.1.Flags) fun made1 =>
  chk (fits l1.length [made1].length 16) <|
  br ((read2.1.Flags &&& (1 : UInt16)) == (0 : UInt16))
  (some (m1, wi (m2 + (1 : Int)), m3, l1 ++ [made1]))
  (L1 (i16 read2.1.Next) m1 (wi (m2 + (1 : Int))) m3 (l1 ++ [made1]) (mput k1 true map1)))))))

def walk_split_1ct3L1 (atp0 : UInt64) (size : Int) (arg5 : gmem_Mem) : Nat → Int → Int → Int → Bool → (List Seg) → (List (Int × Bool)) → Option (Int × Int × Bool × (List Seg))
  | 0, _, _, _, _, _, _ => none
  | nf + 1, k1, m1, m2, m3, l1, map1 => walk_split_1ct3L1B atp0 size arg5 (walk_split_1ct3L1 atp0 size arg5 nf) k1 m1 m2 m3 l1 map1

/-- walk.split$1 -/
def walk_split_1ct3 (atp0 : UInt64) (size : Int) (kp2 : Int) (arg4 : Int) (arg5 : gmem_Mem) (arg6 : Int) (arg7 : Bool) (arg9 : List Seg) : Option (Int × Int × Bool × (List Seg)) :=
  walk_split_1ct3L1 atp0 size arg5 fuel kp2 arg4 arg6 arg7 arg9 ([] : List (Int × Bool))

def walk_split_1cf3J2  (m4 : Int) (m5 : Int) (m6 : Bool) (l2 : List Seg) : Option (Int × Int × Bool × (List Seg)) :=
  some (m4, m5, m6, l2)

def walk_split_1cf3L1B (atp0 : UInt64) (size : Int) (arg5 : gmem_Mem) (L1 : Int → Int → Int → Bool → (List Seg) → (List (Int × Bool)) → Option (Int × Int × Bool × (List Seg))) (k1 : Int) (m1 : Int) (m2 : Int) (m3 : Bool) (l1 : List Seg) (map1 : List (Int × Bool)) : Option (Int × Int × Bool × (List Seg)) :=
  br (mget false k1 map1)
  (some ((4 : Int), m2, m3, l1))
  (br (decide (k1 < (0 : Int)))
  (some ((4 : Int), m2, m3, l1))
  (br (decide (k1 ≥ size))
  (some ((4 : Int), m2, m3, l1))
  (ob (gmem_Mem_Read arg5 (atp0 + ((16 : UInt64) * (u64 k1))) (16 : Int)) fun read1 =>
  br (read1.2 != (0 : Int))
  (some ((5 : Int), m2, m3, l1))
  (ob (desc_Read read1.1) fun read2 =>
  br ((read2.1.Flags &&& (4 : UInt16)) != (0 : UInt16))
  (br ((!m3))
  (some ((4 : Int), wi (m2 + (1 : Int)), m3, l1))
  (br ((read2.1.Flags &&& (1 : UInt16)) != (0 : UInt16))
  (some ((4 : Int), wi (m2 + (1 : Int)), m3, l1))
  (ob (walk_entries arg5 read2.1.Addr read2.1.Len) fun entrie1 =>
  br (entrie1.2 == (0 : Int))
  (ob (walk_split_1ct3 read2.1.Addr entrie1.1 (0 : Int) entrie1.2 arg5 (wi (m2 + (1 : Int))) m3 l1) fun split1 =>
  walk_split_1cf3J2 split1.1 split1.2.1 split1.2.2.1 split1.2.2.2)
  (walk_split_1cf3J2 entrie1.2 (wi (m2 + (1 : Int))) m3 l1))))
  (ob (walk_made read2.1.Addr read2.1.Len read2.1.Flags) fun made1 =>
  chk (fits l1.length [made1].length 16) <|
  br ((read2.1.Flags &&& (1 : UInt16)) == (0 : UInt16))
  (some (m1, wi (m2 + (1 : Int)), m3, l1 ++ [made1]))
  (L1 (i16 read2.1.Next) m1 (wi (m2 + (1 : Int))) m3 (l1 ++ [made1]) (mput k1 true map1)))))))

def walk_split_1cf3L1 (atp0 : UInt64) (size : Int) (arg5 : gmem_Mem) : Nat → Int → Int → Int → Bool → (List Seg) → (List (Int × Bool)) → Option (Int × Int × Bool × (List Seg))
  | 0, _, _, _, _, _, _ => none
  | nf + 1, k1, m1, m2, m3, l1, map1 => walk_split_1cf3L1B atp0 size arg5 (walk_split_1cf3L1 atp0 size arg5 nf) k1 m1 m2 m3 l1 map1

/-- walk.split$1 -/
def walk_split_1cf3 (atp0 : UInt64) (size : Int) (kp2 : Int) (arg4 : Int) (arg5 : gmem_Mem) (arg6 : Int) (arg7 : Bool) (arg9 : List Seg) : Option (Int × Int × Bool × (List Seg)) :=
  walk_split_1cf3L1 atp0 size arg5 fuel kp2 arg4 arg6 arg7 arg9 ([] : List (Int × Bool))

/-- walk.split -/
def walk_split (m : gmem_Mem) (rp1 : Rings) (head : Int) (table : Bool) : Option ((List Seg) × Int × Int) :=
  ob (walk_split_1cf3 rp1.Desc rp1.Size head (0 : Int) m (0 : Int) table ([] : List Seg)) fun split1 =>
  some (split1.2.2.2, split1.2.1, split1.1)

/-- seg.Check$1 -/
def seg_Check_1 (arg0 : Int) (arg1 : UInt64) : Option Int :=
  br (arg0 == (0 : Int))
  (br (decide (arg1 ≥ (4294967296 : UInt64)))
  (some (2 : Int))
  (some arg0))
  (some arg0)

def seg_CheckL1B (l : List Seg) (L1 : Int → UInt64 → Int → Option Int) (m1 : Int) (m2 : UInt64) (x1 : Int) : Option Int :=
  br (decide (x1 < (len l)))
  (ob (ix l x1) fun s1 =>
  br (decide (s1.Len < (1 : UInt32)))
  (ob (seg_Check_1 (2 : Int) m2) fun check1 =>
  some check1)
  (br (decide ((s1.Len.toUInt64 - (1 : UInt64)) > ((18446744073709551615 : UInt64) - s1.At)))
  (ob (seg_Check_1 (2 : Int) m2) fun check2 =>
  some check2)
  (br (decide (x1 > (0 : Int)))
  (ob (ix l (wi (x1 - (1 : Int)))) fun s2 =>
  br (s2.Write)
  (br ((!s1.Write))
  (ob (seg_Check_1 (2 : Int) m2) fun check3 =>
  some check3)
  (L1 m1 (m2 + s1.Len.toUInt64) (wi (x1 + (1 : Int)))))
  (L1 m1 (m2 + s1.Len.toUInt64) (wi (x1 + (1 : Int)))))
  (L1 m1 (m2 + s1.Len.toUInt64) (wi (x1 + (1 : Int)))))))
  (ob (seg_Check_1 (0 : Int) m2) fun check4 =>
  some check4)

def seg_CheckL1 (l : List Seg) : Nat → Int → UInt64 → Int → Option Int
  | 0, _, _, _ => none
  | nf + 1, m1, m2, x1 => seg_CheckL1B l (seg_CheckL1 l nf) m1 m2 x1

/-- seg.Check -/
def seg_Check (l : List Seg) : Option Int :=
  br (decide ((len l) > (64 : Int)))
  (some (3 : Int))
  (seg_CheckL1 l fuel (0 : Int) (0 : UInt64) (0 : Int))

def seg_InL1B (m : gmem_Mem) (l : List Seg) (L1 : Int → Option Int) (x1 : Int) : Option Int :=
  br (decide (x1 < (len l)))
  (ob (ix l x1) fun s1 =>
  ob (gmem_Mem_Has m s1.At s1.Len.toUInt64) fun has1 =>
  br ((!has1))
  (some (5 : Int))
  (L1 (wi (x1 + (1 : Int)))))
  (some (0 : Int))

def seg_InL1 (m : gmem_Mem) (l : List Seg) : Nat → Int → Option Int
  | 0, _ => none
  | nf + 1, x1 => seg_InL1B m l (seg_InL1 m l nf) x1

/-- seg.In -/
def seg_In (m : gmem_Mem) (l : List Seg) : Option Int :=
  ob (gmem_Mem_Read m (0 : UInt64) (0 : Int)) fun read1 =>
  br (read1.2 != (0 : Int))
  (some read1.2)
  (ob (seg_Check l) fun check1 =>
  br (check1 != (0 : Int))
  (some check1)
  (seg_InL1 m l fuel (0 : Int)))

/-- walk.looked -/
def walk_looked (m : gmem_Mem) (l : List Seg) : Option ((List Seg) × Int) :=
  br ((len l) == (0 : Int))
  (some (([] : List Seg), (4 : Int)))
  (ob (seg_Check l) fun check1 =>
  br (check1 != (0 : Int))
  (some (([] : List Seg), (4 : Int)))
  (ob (seg_In m l) fun in1 =>
  br (in1 != (0 : Int))
  (some (([] : List Seg), in1))
  (some (l, (0 : Int)))))

/-- walk.Split -/
def walk_Split (m : gmem_Mem) (rp1 : Rings) (head : Int) (table : Bool) : Option ((List Seg) × Int) :=
  ob (walk_refuse m rp1 false) fun refuse1 =>
  br (refuse1 != (0 : Int))
  (some (([] : List Seg), refuse1))
  (ob (walk_split m rp1 head table) fun split1 =>
  br (split1.2.2 != (0 : Int))
  (some (([] : List Seg), split1.2.2))
  (ob (walk_looked m split1.1) fun looked1 =>
  some (looked1.1, looked1.2)))

def kit_SameSegsL1B (ap0 : List Seg) (b : List Seg) (L1 : Int → Option Bool) (i1 : Int) : Option Bool :=
  br (decide (i1 < (len ap0)))
  (ob (ix ap0 i1) fun s1 =>
  ob (ix b i1) fun s2 =>
  br (s1 != s2)
  (some false)
  (L1 (wi (i1 + (1 : Int)))))
  (some true)

def kit_SameSegsL1 (ap0 : List Seg) (b : List Seg) : Nat → Int → Option Bool
  | 0, _ => none
  | nf + 1, i1 => kit_SameSegsL1B ap0 b (kit_SameSegsL1 ap0 b nf) i1

/-- dumbwaiterkit.SameSegs -/
def kit_SameSegs (ap0 : List Seg) (b : List Seg) : Option Bool :=
  br ((len ap0) != (len b))
  (some false)
  (kit_SameSegsL1 ap0 b fuel (0 : Int))

/-- dumbwaiterlaw10.lives -/
def law10zlives  : Option Bool :=
  ob (ref_Place04 false (4 : Int) (0 : UInt64)) fun place1 =>
  ob (gmem_New [(Region.mk (0 : UInt64) (1000 : UInt64))]) fun new1 =>
  onO new1.1
  (none)
  (fun mem1 =>
  br (place1.2.2 != (0 : Int))
  (some false)
  (br (new1.2 != (0 : Int))
  (some false)
  (ob (ref_Bytes03 (Desc.mk (200 : UInt64) (4 : UInt32) (1 : UInt16) (0 : UInt16))) fun bytes1 =>
  ob (gmem_Mem_Write mem1 (0 : UInt64) bytes1) fun write1 =>
  ob (walk_Split (gmem_Mem.mk mem1.l write1.2) place1.1 (0 : Int) true) fun split1 =>
  ob (ref_Bytes03 (Desc.mk (200 : UInt64) (4 : UInt32) (0 : UInt16) (0 : UInt16))) fun bytes2 =>
  ob (gmem_Mem_Write (gmem_Mem.mk mem1.l write1.2) (0 : UInt64) bytes2) fun write2 =>
  ob (ref_Bytes03 (Desc.mk (900 : UInt64) (200 : UInt32) (0 : UInt16) (0 : UInt16))) fun bytes3 =>
  ob (gmem_Mem_Write (gmem_Mem.mk mem1.l write2.2) (16 : UInt64) bytes3) fun write3 =>
  ob (walk_Split (gmem_Mem.mk mem1.l write3.2) place1.1 (0 : Int) true) fun split2 =>
  ob (walk_Split (gmem_Mem.mk mem1.l write3.2) place1.1 (1 : Int) true) fun split3 =>
  br (split1.2 == (4 : Int))
  (br (split2.2 == (0 : Int))
  (ob (kit_SameSegs split2.1 [(Seg.mk (200 : UInt64) (4 : UInt32) false)]) fun samese1 =>
  br (samese1)
  (some (split3.2 == (5 : Int)))
  (some false))
  (some false))
  (some false))))

/-- dumbwaiterkit.Pick -/
def kit_Pick (np0 : Int) (m : Int) : Option Int :=
  br (decide (m < (1 : Int)))
  (some (0 : Int))
  (chk (!(m == 0)) <|
  br (decide ((remi np0 m) < (0 : Int)))
  (some (wi ((remi np0 m) + m)))
  (some (remi np0 m)))

def ref_Check02L1B (l : List Region) (L1 : UInt64 → Int → Option Int) (sum1 : UInt64) (i1 : Int) : Option Int :=
  br (decide (i1 < (len l)))
  (ob (ix l i1) fun r1 =>
  br (r1.Len == (0 : UInt64))
  (some (2 : Int))
  (ob (ix l i1) fun r2 =>
  br (decide (r2.Len > (1048576 : UInt64)))
  (some (2 : Int))
  (ob (ix l i1) fun r3 =>
  ob (ix l i1) fun r4 =>
  ob (ix l i1) fun r5 =>
  br (decide ((r3.At + (r4.Len - (1 : UInt64))) < r5.At))
  (some (2 : Int))
  (ob (ix l i1) fun r6 =>
  br (decide (i1 > (0 : Int)))
  (ob (ix l i1) fun r7 =>
  ob (ix l (wi (i1 - (1 : Int)))) fun r8 =>
  ob (ix l (wi (i1 - (1 : Int)))) fun r9 =>
  br (decide (r7.At ≤ (r8.At + (r9.Len - (1 : UInt64)))))
  (some (2 : Int))
  (L1 (sum1 + r6.Len) (wi (i1 + (1 : Int)))))
  (L1 (sum1 + r6.Len) (wi (i1 + (1 : Int))))))))
  (br (decide (sum1 > (1048576 : UInt64)))
  (some (2 : Int))
  (some (0 : Int)))

def ref_Check02L1 (l : List Region) : Nat → UInt64 → Int → Option Int
  | 0, _, _ => none
  | nf + 1, sum1, i1 => ref_Check02L1B l (ref_Check02L1 l nf) sum1 i1

/-- dumbwaiterref02.Check -/
def ref_Check02 (l : List Region) : Option Int :=
  br (decide ((len l) > (16 : Int)))
  (some (2 : Int))
  (ref_Check02L1 l fuel (0 : UInt64) (0 : Int))

def ref_New02L1B (l : List Region) (L1 : (List Region) → (List (List UInt8)) → Int → Option ((Option dumbwaiterref02_Mem) × Int)) (l1 : List Region) (rows1 : List (List UInt8)) (i1 : Int) : Option ((Option dumbwaiterref02_Mem) × Int) :=
  br (decide (i1 < (len l)))
  (ob (ix l i1) fun r1 =>
  chk (decide (0 ≤ (r1.Len.toNat : Int) ∧ (r1.Len.toNat : Int) ≤ (r1.Len.toNat : Int) ∧ (1 : Int) * (r1.Len.toNat : Int) ≤ 140737488355328)) <|
  chk (fits rows1.length 1 24) <|
  L1 l1 (rows1 ++ [List.replicate (Int.toNat (r1.Len.toNat : Int)) (0 : UInt8)]) (wi (i1 + (1 : Int))))
  (some ((some (dumbwaiterref02_Mem.mk l1 rows1)), (0 : Int)))

def ref_New02L1 (l : List Region) : Nat → (List Region) → (List (List UInt8)) → Int → Option ((Option dumbwaiterref02_Mem) × Int)
  | 0, _, _, _ => none
  | nf + 1, l1, rows1, i1 => ref_New02L1B l (ref_New02L1 l nf) l1 rows1 i1

/-- dumbwaiterref02.New -/
def ref_New02 (l : List Region) : Option ((Option dumbwaiterref02_Mem) × Int) :=
  ob (ref_Check02 l) fun check1 =>
  br (check1 != (0 : Int))
  (some ((none : Option dumbwaiterref02_Mem), (2 : Int)))
  (chk (fits ([] : List Region).length l.length 16) <|
  ref_New02L1 l fuel l ([] : List (List UInt8)) (0 : Int))

def ref_Mem_find02L1B (m : dumbwaiterref02_Mem) (atp1 : UInt64) (np2 : UInt64) (L1 : Int → Option (Int × Int)) (i1 : Int) : Option (Int × Int) :=
  br (decide (i1 < (len m.L)))
  (ob (ix m.L i1) fun r1 =>
  br (decide (np2 ≥ (1 : UInt64)))
  (br (decide (atp1 ≥ r1.At))
  (br (decide (np2 ≤ r1.Len))
  (br (decide ((atp1 - r1.At) ≤ (r1.Len - np2)))
  (some (i1, i64 (atp1 - r1.At)))
  (L1 (wi (i1 + (1 : Int)))))
  (L1 (wi (i1 + (1 : Int)))))
  (L1 (wi (i1 + (1 : Int)))))
  (L1 (wi (i1 + (1 : Int)))))
  (some (((-1) : Int), (0 : Int)))

def ref_Mem_find02L1 (m : dumbwaiterref02_Mem) (atp1 : UInt64) (np2 : UInt64) : Nat → Int → Option (Int × Int)
  | 0, _ => none
  | nf + 1, i1 => ref_Mem_find02L1B m atp1 np2 (ref_Mem_find02L1 m atp1 np2 nf) i1

/-- (*dumbwaiterref02.Mem).find -/
def ref_Mem_find02 (m : dumbwaiterref02_Mem) (atp1 : UInt64) (np2 : UInt64) : Option (Int × Int) :=
  ref_Mem_find02L1 m atp1 np2 fuel (0 : Int)

/-- (*dumbwaiterref02.Mem).Write -/
def ref_Mem_Write02 (m : dumbwaiterref02_Mem) (atp1 : UInt64) (b : List UInt8) : Option (Int × (List (List UInt8))) :=
  br ((len b) == (0 : Int))
  (some ((0 : Int), m.B))
  (ob (ref_Mem_find02 m atp1 (u64 (len b))) fun find1 =>
  br (decide (find1.1 < (0 : Int)))
  (some ((5 : Int), m.B))
  (ob (ix m.B find1.1) fun row1 =>
  chk (decide (0 ≤ find1.2 ∧ find1.2 ≤ (len row1) ∧ (len row1) ≤ len row1)) <|
  some ((0 : Int), m.B.set (Int.toNat find1.1) (copyAt row1 find1.2 (len row1) b))))

/-- dumbwaiterref03.PackedBytes -/
def ref_PackedBytes03 (dp0 : Packed) : Option (List UInt8) :=
  ob (ref_put03 ([] : List UInt8) dp0.Addr (8 : Int)) fun put1 =>
  ob (ref_put03 put1 dp0.Len.toUInt64 (4 : Int)) fun put2 =>
  ob (ref_put03 put2 dp0.ID.toUInt64 (2 : Int)) fun put3 =>
  ob (ref_put03 put3 dp0.Flags.toUInt64 (2 : Int)) fun put4 =>
  some put4

def law10zlaidJ2 (l : List dumbwaiterlaw10_Spot) (mem1 : gmem_Mem) (mem2 : dumbwaiterref02_Mem) (m1 : Rings) (m2 : Rings) (rows1 : List (List UInt8)) (rows2 : List (List UInt8)) (i1 : Int) (L1 : Rings → Rings → (List (List UInt8)) → (List (List UInt8)) → Int → Option ((Option gmem_Mem) × (Option dumbwaiterref02_Mem) × Rings × Bool)) (b5 : List UInt8) : Option ((Option gmem_Mem) × (Option dumbwaiterref02_Mem) × Rings × Bool) :=
  ob (ix l i1) fun d2 =>
  ob (kit_Pick d2.At (750 : Int)) fun pick1 =>
  ob (gmem_Mem_Write (gmem_Mem.mk mem1.l rows1) (u64 (wi ((16 : Int) * pick1))) b5) fun write1 =>
  ob (ref_Mem_Write02 (dumbwaiterref02_Mem.mk mem2.L rows2) (u64 (wi ((16 : Int) * pick1))) b5) fun write2 =>
  L1 m1 m2 write1.2 write2.2 (wi (i1 + (1 : Int)))

def law10zlaidL1B (packed : Bool) (l : List dumbwaiterlaw10_Spot) (mem1 : gmem_Mem) (mem2 : dumbwaiterref02_Mem) (L1 : Rings → Rings → (List (List UInt8)) → (List (List UInt8)) → Int → Option ((Option gmem_Mem) × (Option dumbwaiterref02_Mem) × Rings × Bool)) (m1 : Rings) (m2 : Rings) (rows1 : List (List UInt8)) (rows2 : List (List UInt8)) (i1 : Int) : Option ((Option gmem_Mem) × (Option dumbwaiterref02_Mem) × Rings × Bool) :=
  br (decide (i1 < (len l)))
  (ob (ix l i1) fun d1 =>
  ob (ref_Bytes03 d1.Split) fun bytes1 =>
  br (packed)
  (ob (ix l i1) fun d3 =>
  ob (ref_PackedBytes03 d3.Packed) fun packed1 =>
  law10zlaidJ2 l mem1 mem2 m1 m2 rows1 rows2 i1 L1 packed1)
  (law10zlaidJ2 l mem1 mem2 m1 m2 rows1 rows2 i1 L1 bytes1))
  (some ((some (gmem_Mem.mk mem1.l rows1)), (some (dumbwaiterref02_Mem.mk mem2.L rows2)), m2, true))

def law10zlaidL1 (packed : Bool) (l : List dumbwaiterlaw10_Spot) (mem1 : gmem_Mem) (mem2 : dumbwaiterref02_Mem) : Nat → Rings → Rings → (List (List UInt8)) → (List (List UInt8)) → Int → Option ((Option gmem_Mem) × (Option dumbwaiterref02_Mem) × Rings × Bool)
  | 0, _, _, _, _, _ => none
  | nf + 1, m1, m2, rows1, rows2, i1 => law10zlaidL1B packed l mem1 mem2 (law10zlaidL1 packed l mem1 mem2 nf) m1 m2 rows1 rows2 i1

/-- dumbwaiterlaw10.laid -/
def law10zlaid (size : Int) (packed : Bool) (l : List dumbwaiterlaw10_Spot) : Option ((Option gmem_Mem) × (Option dumbwaiterref02_Mem) × Rings × Bool) :=
  ob (ref_Place04 packed size (0 : UInt64)) fun place1 =>
  ob (gmem_New [(Region.mk (0 : UInt64) (12000 : UInt64))]) fun new1 =>
  onO new1.1
  (none)
  (fun mem1 =>
  ob (ref_New02 [(Region.mk (0 : UInt64) (12000 : UInt64))]) fun new2 =>
  onO new2.1
  (none)
  (fun mem2 =>
  br (place1.2.2 != (0 : Int))
  (some ((none : Option gmem_Mem), (none : Option dumbwaiterref02_Mem), place1.1, false))
  (br (new1.2 != (0 : Int))
  (some ((none : Option gmem_Mem), (none : Option dumbwaiterref02_Mem), place1.1, false))
  (br (new2.2 != (0 : Int))
  (some ((none : Option gmem_Mem), (none : Option dumbwaiterref02_Mem), place1.1, false))
  (law10zlaidL1 packed l mem1 mem2 fuel (Rings.mk false (0 : Int) (0 : UInt64) (0 : UInt64) (0 : UInt64)) place1.1 mem1.b mem2.B (0 : Int))))))

/-- walk.Reads -/
def walk_Reads (m : gmem_Mem) (rp1 : Rings) (head : Int) (table : Bool) : Option Int :=
  ob (walk_refuse m rp1 false) fun refuse1 =>
  br (refuse1 != (0 : Int))
  (some (0 : Int))
  (ob (walk_split m rp1 head table) fun split1 =>
  some split1.2.1)

/-- serial.Check -/
def serial_Check (pp0 : Pos) (size : Int) : Option Int :=
  ob (serial_isSize size) fun issize1 =>
  br ((!issize1))
  (some (2 : Int))
  (br (decide (pp0.At < (0 : Int)))
  (some (2 : Int))
  (br (decide (pp0.At ≥ size))
  (some (2 : Int))
  (some (0 : Int))))

/-- desc.ReadPacked -/
def desc_ReadPacked (b : List UInt8) : Option (Packed × Int) :=
  br ((len b) != (16 : Int))
  (some ((Packed.mk (0 : UInt64) (0 : UInt32) (0 : UInt16) (0 : UInt16)), (4 : Int)))
  (chk (Nat.ble 16 b.length) <|
  chk ((b.take 16).length == 16) <|
  ob (desc_raw_get (b.take 16) (0 : Int) (8 : Int)) fun get1 =>
  ob (desc_raw_get (b.take 16) (8 : Int) (4 : Int)) fun get2 =>
  ob (desc_raw_get (b.take 16) (12 : Int) (2 : Int)) fun get3 =>
  ob (desc_raw_get (b.take 16) (14 : Int) (2 : Int)) fun get4 =>
  some ((Packed.mk get1 get2.toUInt32 get3.toUInt16 get4.toUInt16), (0 : Int)))

/-- serial.Go -/
def serial_Go (pp0 : Pos) (byp1 : Int) (size : Int) : Option (Pos × Int) :=
  ob (serial_Check pp0 size) fun check1 =>
  br (check1 != (0 : Int))
  (some ((Pos.mk (0 : Int) false), (2 : Int)))
  (br (decide (byp1 < (0 : Int)))
  (some ((Pos.mk (0 : Int) false), (2 : Int)))
  (br (decide (byp1 > size))
  (some ((Pos.mk (0 : Int) false), (2 : Int)))
  (br (decide ((wi (pp0.At + byp1)) ≥ size))
  (some ((Pos.mk (wi ((wi (pp0.At + byp1)) - size)) (!pp0.Wrap)), (0 : Int)))
  (some ((Pos.mk (wi (pp0.At + byp1)) pp0.Wrap), (0 : Int))))))

def walk_withinL1B (m : gmem_Mem) (atp1 : UInt64) (entrie1 : (Int × Int)) (L1 : (List Seg) → Int → Int → Option ((List Seg) × Int)) (l1 : List Seg) (e1 : Int) (x1 : Int) : Option ((List Seg) × Int) :=
  br (decide (x1 < entrie1.1))
  (ob (gmem_Mem_Read m (atp1 + ((16 : UInt64) * (u64 x1))) (16 : Int)) fun read1 =>
  ob (desc_ReadPacked read1.1) fun readpa1 =>
  br ((readpa1.1.Flags &&& (4 : UInt16)) != (0 : UInt16))
  (some (([] : List Seg), (4 : Int)))
  (ob (walk_made readpa1.1.Addr readpa1.1.Len readpa1.1.Flags) fun made1 =>
  chk (fits l1.length [made1].length 16) <|
  L1 (l1 ++ [made1]) e1 (wi (x1 + (1 : Int)))))
  (some (l1, e1))

def walk_withinL1 (m : gmem_Mem) (atp1 : UInt64) (entrie1 : (Int × Int)) : Nat → (List Seg) → Int → Int → Option ((List Seg) × Int)
  | 0, _, _, _ => none
  | nf + 1, l1, e1, x1 => walk_withinL1B m atp1 entrie1 (walk_withinL1 m atp1 entrie1 nf) l1 e1 x1

/-- walk.within -/
def walk_within (m : gmem_Mem) (atp1 : UInt64) (np2 : UInt32) : Option ((List Seg) × Int) :=
  ob (walk_entries m atp1 np2) fun entrie1 =>
  walk_withinL1 m atp1 entrie1 fuel [] entrie1.2 (0 : Int)

def walk_packedL1B (m : gmem_Mem) (table : Bool) (L1 : Rings → Pos → Int → Int → (List Seg) → Option (Taken × Int)) (m1 : Rings) (m2 : Pos) (ID1 : Int) (Count1 : Int) (Segs1 : List Seg) : Option (Taken × Int) :=
  br (decide (Count1 < m1.Size))
  (ob (gmem_Mem_Read m (m1.Desc + ((16 : UInt64) * (u64 m2.At))) (16 : Int)) fun read1 =>
  br (read1.2 != (0 : Int))
  (some ((Taken.mk ID1 Count1 Segs1), (5 : Int)))
  (ob (desc_ReadPacked read1.1) fun readpa1 =>
  ob (serial_Go m2 (1 : Int) m1.Size) fun go1 =>
  br ((readpa1.1.Flags &&& (4 : UInt16)) != (0 : UInt16))
  (br ((!table))
  (some ((Taken.mk (i16 readpa1.1.ID) (wi (Count1 + (1 : Int))) Segs1), (4 : Int)))
  (br (decide ((wi (Count1 + (1 : Int))) > (1 : Int)))
  (some ((Taken.mk (i16 readpa1.1.ID) (wi (Count1 + (1 : Int))) Segs1), (4 : Int)))
  (br ((readpa1.1.Flags &&& (1 : UInt16)) != (0 : UInt16))
  (some ((Taken.mk (i16 readpa1.1.ID) (wi (Count1 + (1 : Int))) Segs1), (4 : Int)))
  (ob (walk_within m readpa1.1.Addr readpa1.1.Len) fun within1 =>
  some ((Taken.mk (i16 readpa1.1.ID) (wi (Count1 + (1 : Int))) within1.1), within1.2)))))
  (ob (walk_made readpa1.1.Addr readpa1.1.Len readpa1.1.Flags) fun made1 =>
  chk (fits Segs1.length [made1].length 16) <|
  br ((readpa1.1.Flags &&& (1 : UInt16)) == (0 : UInt16))
  (some ((Taken.mk (i16 readpa1.1.ID) (wi (Count1 + (1 : Int))) (Segs1 ++ [made1])), (0 : Int)))
  (L1 m1 go1.1 (i16 readpa1.1.ID) (wi (Count1 + (1 : Int))) (Segs1 ++ [made1])))))
  (some ((Taken.mk ID1 Count1 Segs1), (4 : Int)))

def walk_packedL1 (m : gmem_Mem) (table : Bool) : Nat → Rings → Pos → Int → Int → (List Seg) → Option (Taken × Int)
  | 0, _, _, _, _, _ => none
  | nf + 1, m1, m2, ID1, Count1, Segs1 => walk_packedL1B m table (walk_packedL1 m table nf) m1 m2 ID1 Count1 Segs1

/-- walk.packed -/
def walk_packed (m : gmem_Mem) (rp1 : Rings) (pp2 : Pos) (table : Bool) : Option (Taken × Int) :=
  walk_packedL1 m table fuel rp1 pp2 (0 : Int) (0 : Int) ([] : List Seg)

def walk_PackedJ3  (ID1 : Int) (Count1 : Int) (Segs1 : List Seg) (e3 : Int) (ID2 : Int) (Count2 : Int) (Segs2 : List Seg) : Option (Taken × Int) :=
  br (e3 != (0 : Int))
  (some ((Taken.mk (0 : Int) (0 : Int) ([] : List Seg)), e3))
  (some ((Taken.mk ID2 Count2 Segs2), (0 : Int)))

def walk_PackedJ2 (m : gmem_Mem) (packed1 : (Taken × Int)) (e2 : Int) : Option (Taken × Int) :=
  br (e2 == (0 : Int))
  (ob (walk_looked m packed1.1.Segs) fun looked1 =>
  walk_PackedJ3 (0 : Int) (0 : Int) ([] : List Seg) looked1.2 packed1.1.ID packed1.1.Count looked1.1)
  (walk_PackedJ3 (0 : Int) (0 : Int) ([] : List Seg) e2 packed1.1.ID packed1.1.Count packed1.1.Segs)

def walk_PackedJ1 (m : gmem_Mem) (rp1 : Rings) (pp2 : Pos) (table : Bool) (e1 : Int) : Option (Taken × Int) :=
  br (e1 != (0 : Int))
  (some ((Taken.mk (0 : Int) (0 : Int) ([] : List Seg)), e1))
  (ob (walk_packed m rp1 pp2 table) fun packed1 =>
  br (packed1.2 == (0 : Int))
  (br (decide (packed1.1.ID ≥ rp1.Size))
  (walk_PackedJ2 m packed1 (4 : Int))
  (walk_PackedJ2 m packed1 packed1.2))
  (some ((Taken.mk (0 : Int) (0 : Int) ([] : List Seg)), packed1.2)))

/-- walk.Packed -/
def walk_Packed (m : gmem_Mem) (rp1 : Rings) (pp2 : Pos) (table : Bool) : Option (Taken × Int) :=
  ob (walk_refuse m rp1 true) fun refuse1 =>
  br (refuse1 == (0 : Int))
  (ob (serial_Check pp2 rp1.Size) fun check1 =>
  br (check1 != (0 : Int))
  (walk_PackedJ1 m rp1 pp2 table (2 : Int))
  (walk_PackedJ1 m rp1 pp2 table refuse1))
  (some ((Taken.mk (0 : Int) (0 : Int) ([] : List Seg)), refuse1))

def ref_get03L1B (b : List UInt8) (atp1 : Int) (L1 : UInt64 → Int → Option UInt64) (v1 : UInt64) (i1 : Int) : Option UInt64 :=
  br (decide (i1 ≥ (0 : Int)))
  (ob (ix b (wi (atp1 + i1))) fun y1 =>
  L1 (((256 : UInt64) * v1) + y1.toUInt64) (wi (i1 - (1 : Int))))
  (some v1)

def ref_get03L1 (b : List UInt8) (atp1 : Int) : Nat → UInt64 → Int → Option UInt64
  | 0, _, _ => none
  | nf + 1, v1, i1 => ref_get03L1B b atp1 (ref_get03L1 b atp1 nf) v1 i1

/-- dumbwaiterref03.get -/
def ref_get03 (b : List UInt8) (atp1 : Int) (np2 : Int) : Option UInt64 :=
  ref_get03L1 b atp1 fuel (0 : UInt64) (wi (np2 - (1 : Int)))

/-- dumbwaiterref03.Read -/
def ref_Read03 (b : List UInt8) : Option (Desc × Int) :=
  br ((len b) != (16 : Int))
  (some ((Desc.mk (0 : UInt64) (0 : UInt32) (0 : UInt16) (0 : UInt16)), (4 : Int)))
  (ob (ref_get03 b (0 : Int) (8 : Int)) fun get1 =>
  ob (ref_get03 b (8 : Int) (4 : Int)) fun get2 =>
  ob (ref_get03 b (12 : Int) (2 : Int)) fun get3 =>
  ob (ref_get03 b (14 : Int) (2 : Int)) fun get4 =>
  some ((Desc.mk get1 get2.toUInt32 get3.toUInt16 get4.toUInt16), (0 : Int)))

def ref_Check05L1B (l : List Seg) (L1 : UInt64 → Int → Option Int) (sum1 : UInt64) (i1 : Int) : Option Int :=
  br (decide (i1 < (len l)))
  (ob (ix l i1) fun s1 =>
  br (s1.Len == (0 : UInt32))
  (some (2 : Int))
  (ob (ix l i1) fun s2 =>
  ob (ix l i1) fun s3 =>
  ob (ix l i1) fun s4 =>
  br (decide ((s2.At + (s3.Len.toUInt64 - (1 : UInt64))) < s4.At))
  (some (2 : Int))
  (br (decide (i1 > (0 : Int)))
  (ob (ix l (wi (i1 - (1 : Int)))) fun s5 =>
  br (s5.Write)
  (ob (ix l i1) fun s6 =>
  br ((!s6.Write))
  (some (2 : Int))
  (ob (ix l i1) fun s7 =>
  L1 (sum1 + s7.Len.toUInt64) (wi (i1 + (1 : Int)))))
  (ob (ix l i1) fun s8 =>
  L1 (sum1 + s8.Len.toUInt64) (wi (i1 + (1 : Int)))))
  (ob (ix l i1) fun s9 =>
  L1 (sum1 + s9.Len.toUInt64) (wi (i1 + (1 : Int)))))))
  (br (decide (sum1 ≥ (4294967296 : UInt64)))
  (some (2 : Int))
  (some (0 : Int)))

def ref_Check05L1 (l : List Seg) : Nat → UInt64 → Int → Option Int
  | 0, _, _ => none
  | nf + 1, sum1, i1 => ref_Check05L1B l (ref_Check05L1 l nf) sum1 i1

/-- dumbwaiterref05.Check -/
def ref_Check05 (l : List Seg) : Option Int :=
  br (decide ((len l) > (64 : Int)))
  (some (3 : Int))
  (ref_Check05L1 l fuel (0 : UInt64) (0 : Int))

/-- dumbwaiterref03.ReadPacked -/
def ref_ReadPacked03 (b : List UInt8) : Option (Packed × Int) :=
  br ((len b) != (16 : Int))
  (some ((Packed.mk (0 : UInt64) (0 : UInt32) (0 : UInt16) (0 : UInt16)), (4 : Int)))
  (ob (ref_get03 b (0 : Int) (8 : Int)) fun get1 =>
  ob (ref_get03 b (8 : Int) (4 : Int)) fun get2 =>
  ob (ref_get03 b (12 : Int) (2 : Int)) fun get3 =>
  ob (ref_get03 b (14 : Int) (2 : Int)) fun get4 =>
  some ((Packed.mk get1 get2.toUInt32 get3.toUInt16 get4.toUInt16), (0 : Int)))

/-- dumbwaiterkit.Own -/
def kit_Own (b : List UInt8) : Option (List UInt8) :=
  chk (fits ([] : List UInt8).length b.length 1) <|
  some b

/-- dumbwaiterref09.may -/
def ref_may09 (l : List Seg) : Option Int :=
  ob (ref_Check05 l) fun check1 =>
  br (check1 == (0 : Int))
  (br ((len l) == (0 : Int))
  (some (2 : Int))
  (some check1))
  (some check1)

/-- dumbwaiterref09.Needs -/
def ref_Needs09 (l : List Seg) (table : Bool) : Option Int :=
  ob (ref_may09 l) fun may1 =>
  br (may1 != (0 : Int))
  (some (0 : Int))
  (br (table)
  (some (1 : Int))
  (some (len l)))

def slices_Grow_bytebyten0J1 (np1 : Int)  : Option (List UInt8) :=
  br (decide ((wi (np1 - (wi ((0 : Int) - (0 : Int))))) > (0 : Int)))
  (chk (decide (0 ≤ (wi (np1 - (wi ((0 : Int) - (0 : Int))))) ∧ (1 : Int) * (wi (np1 - (wi ((0 : Int) - (0 : Int))))) ≤ 140737488355328)) <|
  chk (decide (0 ≤ (0 : Int) ∧ (0 : Int) ≤ len (List.replicate (wi (np1 - (wi ((0 : Int) - (0 : Int))))).toNat (0 : UInt8)))) <|
  some ((List.replicate (wi (np1 - (wi ((0 : Int) - (0 : Int))))).toNat (0 : UInt8)).take (0 : Int).toNat))
  (some ([] : List UInt8))

/-- slices.Grow[[]byte,byte] -/
def slices_Grow_bytebyten0 (np1 : Int) : Option (List UInt8) :=
  chk (!(decide (np1 < (0 : Int)))) <|
  slices_Grow_bytebyten0J1 np1

def slices_Concat_bytebyteJ2 (x1 : Int) (L1 : Int → Int → Option (List UInt8)) (size2 : Int) : Option (List UInt8) :=
  L1 size2 (wi (x1 + (1 : Int)))

def slices_Concat_bytebyteJ3 (size1 : Int) (x1 : Int) (L1 : Int → Int → Option (List UInt8)) (y1 : List UInt8)  : Option (List UInt8) :=
  slices_Concat_bytebyteJ2 x1 L1 (wi (size1 + (len y1)))

def slices_Concat_bytebyteL4B (slices : List (List UInt8)) (L4 : (List UInt8) → Int → Option (List UInt8)) (newslice1 : List UInt8) (x2 : Int) : Option (List UInt8) :=
  br (decide (x2 < (len slices)))
  (ob (ix slices x2) fun y2 =>
  chk (fits newslice1.length y2.length 1) <|
  L4 (newslice1 ++ y2) (wi (x2 + (1 : Int))))
  (some newslice1)

def slices_Concat_bytebyteL4 (slices : List (List UInt8)) : Nat → (List UInt8) → Int → Option (List UInt8)
  | 0, _, _ => none
  | nf + 1, newslice1, x2 => slices_Concat_bytebyteL4B slices (slices_Concat_bytebyteL4 slices nf) newslice1 x2

def slices_Concat_bytebyteL1B (slices : List (List UInt8)) (L1 : Int → Int → Option (List UInt8)) (size1 : Int) (x1 : Int) : Option (List UInt8) :=
  br (decide (x1 < (len slices)))
  (ob (ix slices x1) fun y1 =>
  chk (!(decide ((wi (size1 + (len y1))) < (0 : Int)))) <|
  slices_Concat_bytebyteJ3 size1 x1 L1 y1)
  (ob (slices_Grow_bytebyten0 size1) fun growby1 =>
  slices_Concat_bytebyteL4 slices fuel growby1 (0 : Int))

def slices_Concat_bytebyteL1 (slices : List (List UInt8)) : Nat → Int → Int → Option (List UInt8)
  | 0, _, _ => none
  | nf + 1, size1, x1 => slices_Concat_bytebyteL1B slices (slices_Concat_bytebyteL1 slices nf) size1 x1

/-- slices.Concat[[]byte,byte] -/
def slices_Concat_bytebyte (slices : List (List UInt8)) : Option (List UInt8) :=
  slices_Concat_bytebyteL1 slices fuel (0 : Int) (0 : Int)

/-- (*gmem.Mem).Image -/
def gmem_Mem_Image (m : gmem_Mem) : Option (List UInt8) :=
  ob (gmem_Mem_made m) fun made1 =>
  ob (slices_Concat_bytebyte m.b) fun concat1 =>
  some concat1

def law10zWalkEndsL3B (x1 : Int) (L1 : Pos → (List Bool) → Int → Option Bool) (mem1 : gmem_Mem) (write1 : (Int × (List (List UInt8)))) (m2 : Pos) (l2 : List Bool) (x2 : List Seg) (L3 : Int → Option Bool) (i1 : Int) : Option Bool :=
  br (decide (i1 < (len x2)))
  (ob (ix x2 i1) fun s1 =>
  ob (ix x2 i1) fun s2 =>
  ob (gmem_Mem_Has (gmem_Mem.mk mem1.l write1.2) s1.At s2.Len.toUInt64) fun has1 =>
  chk (!((!has1))) <|
  L3 (wi (i1 + (1 : Int))))
  (L1 m2 l2 (wi (x1 + (1 : Int))))

def law10zWalkEndsL3 (x1 : Int) (L1 : Pos → (List Bool) → Int → Option Bool) (mem1 : gmem_Mem) (write1 : (Int × (List (List UInt8)))) (m2 : Pos) (l2 : List Bool) (x2 : List Seg) : Nat → Int → Option Bool
  | 0, _ => none
  | nf + 1, i1 => law10zWalkEndsL3B x1 L1 mem1 write1 m2 l2 x2 (law10zWalkEndsL3 x1 L1 mem1 write1 m2 l2 x2 nf) i1

def law10zWalkEndsJ2 (x1 : Int) (L1 : Pos → (List Bool) → Int → Option Bool) (mem1 : gmem_Mem) (write1 : (Int × (List (List UInt8)))) (image1 : (List UInt8)) (m2 : Pos) (l2 : List Bool) (x2 : List Seg) (y2 : List Seg) (e1 : Int) (f1 : Int) : Option Bool :=
  ob (kit_SameSegs x2 y2) fun samese1 =>
  chk (!((!samese1))) <|
  chk (!(e1 != f1)) <|
  ob (gmem_Mem_Image (gmem_Mem.mk mem1.l write1.2)) fun image2 =>
  chk (!(image2 != image1)) <|
  ob (ref_Needs09 x2 true) fun needs1 =>
  chk (!((e1 == (0 : Int)) != (needs1 == (1 : Int)))) <|
  law10zWalkEndsL3 x1 L1 mem1 write1 m2 l2 x2 fuel (0 : Int)

def law10zWalkEndsL1B (l : List dumbwaiterlaw10_Spot) (raw : List UInt8) (atp3 : Int) (head : Int) (pick1 : Int) (L1 : Pos → (List Bool) → Int → Option Bool) (m1 : Pos) (l1 : List Bool) (x1 : Int) : Option Bool :=
  br (decide (x1 < (len [false, true])))
  (ob (ix l1 x1) fun y1 =>
  ob (law10zlaid (shli (1 : Int) ((u64 pick1).toNat)) y1 l) fun laid1 =>
  onO laid1.1
  (none)
  (fun mem1 =>
  chk (!((!laid1.2.2.2))) <|
  ob (kit_Pick atp3 (wi ((wi ((12000 : Int) - (len raw))) + (1 : Int)))) fun pick2 =>
  ob (kit_Own raw) fun own1 =>
  ob (gmem_Mem_Write mem1 (u64 pick2) own1) fun write1 =>
  ob (gmem_Mem_Image (gmem_Mem.mk mem1.l write1.2)) fun image1 =>
  br (y1)
  (ob (walk_Packed (gmem_Mem.mk mem1.l write1.2) laid1.2.2.1 m1 true) fun packed1 =>
  ob (walk_Packed (gmem_Mem.mk mem1.l write1.2) laid1.2.2.1 m1 true) fun packed2 =>
  br (packed1.2 == (0 : Int))
  (chk (!(decide (packed1.1.ID ≥ (shli (1 : Int) ((u64 pick1).toNat))))) <|
  chk (!(decide (packed1.1.ID < (0 : Int)))) <|
  chk (!(decide (packed1.1.Count < (1 : Int)))) <|
  chk (!(decide (packed1.1.Count > (shli (1 : Int) ((u64 pick1).toNat))))) <|
  chk (!(packed1.1.ID != packed2.1.ID)) <|
  chk (!(packed1.1.Count != packed2.1.Count)) <|
  law10zWalkEndsJ2 x1 L1 mem1 write1 image1 m1 l1 packed1.1.Segs packed2.1.Segs packed1.2 packed2.2)
  (law10zWalkEndsJ2 x1 L1 mem1 write1 image1 m1 l1 packed1.1.Segs packed2.1.Segs packed1.2 packed2.2))
  (ob (walk_Split (gmem_Mem.mk mem1.l write1.2) laid1.2.2.1 head true) fun split1 =>
  ob (walk_Split (gmem_Mem.mk mem1.l write1.2) laid1.2.2.1 head true) fun split2 =>
  ob (walk_Reads (gmem_Mem.mk mem1.l write1.2) laid1.2.2.1 head true) fun reads1 =>
  chk (!(decide (reads1 < (0 : Int)))) <|
  chk (!(decide (reads1 > (wi ((shli (1 : Int) ((u64 pick1).toNat)) + (64 : Int)))))) <|
  br (split1.2 == (0 : Int))
  (chk (!(decide (reads1 < (1 : Int)))) <|
  law10zWalkEndsJ2 x1 L1 mem1 write1 image1 m1 l1 split1.1 split2.1 split1.2 split2.2)
  (law10zWalkEndsJ2 x1 L1 mem1 write1 image1 m1 l1 split1.1 split2.1 split1.2 split2.2))))
  (some true)

def law10zWalkEndsL1 (l : List dumbwaiterlaw10_Spot) (raw : List UInt8) (atp3 : Int) (head : Int) (pick1 : Int) : Nat → Pos → (List Bool) → Int → Option Bool
  | 0, _, _, _ => none
  | nf + 1, m1, l1, x1 => law10zWalkEndsL1B l raw atp3 head pick1 (law10zWalkEndsL1 l raw atp3 head pick1 nf) m1 l1 x1

/-- dumbwaiterlaw10.WalkEnds -/
def law10zWalkEnds (size : Int) (l : List dumbwaiterlaw10_Spot) (raw : List UInt8) (atp3 : Int) (head : Int) (pp5 : Pos) : Option Bool :=
  ob (law10zlives) fun lives1 =>
  chk (!((!lives1))) <|
  br (decide ((len l) > (40 : Int)))
  (some true)
  (br (decide ((len raw) > (12000 : Int)))
  (some true)
  (ob (kit_Pick size (8 : Int)) fun pick1 =>
  law10zWalkEndsL1 l raw atp3 head pick1 fuel pp5 [false, true] (0 : Int)))

end Go.Proofs.Ytlofegfaphijpaa
