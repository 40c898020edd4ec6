/- What the functions reckon, as plain words. No statement of the seat is proved here; no condition. -/
import Derived.Test.YtlofegfaphijpaaTy
namespace Go.Proofs.Ytlofegfaphijpaa

def ref_Power01L1B (np0 : Int) (L1 : Int → Option Bool) (k1 : Int) : Option Bool :=
  br (decide (k1 ≤ (32768 : Int)))
  (br (k1 == np0)
  (some true)
  (L1 (wi ((2 : Int) * k1))))
  (some false)

def ref_Power01L1 (np0 : Int) : Nat → Int → Option Bool
  | 0, _ => none
  | nf + 1, k1 => ref_Power01L1B np0 (ref_Power01L1 np0 nf) k1

def ref_Power01 (np0 : Int) : Option Bool :=
  ref_Power01L1 np0 fuel (1 : Int)

def ref_size04 (packed : Bool) (np1 : Int) : Option Bool :=
  br (decide (np1 ≥ (1 : Int)))
  (br (decide (np1 ≤ (32768 : Int)))
  (br (packed)
  (some true)
  (ob (ref_Power01 np1) fun power1 =>
  some power1))
  (some false))
  (some false)

def ref_Parts04 (rp0 : Rings) : Option (UInt64 × UInt64 × UInt64) :=
  ob (ref_size04 rp0.Packed rp0.Size) fun size1 =>
  br ((!size1))
  (some ((0 : UInt64), (0 : UInt64), (0 : UInt64)))
  (br (rp0.Packed)
  (some ((16 : UInt64) * (u64 rp0.Size), (4 : UInt64), (4 : UInt64)))
  (some ((16 : UInt64) * (u64 rp0.Size), (6 : UInt64) + ((2 : UInt64) * (u64 rp0.Size)), (6 : UInt64) + ((8 : UInt64) * (u64 rp0.Size)))))

def ref_Align01 (np0 : UInt64) (top1 : UInt64) : Option (UInt64 × Int) :=
  br (top1 == (0 : UInt64))
  (some ((0 : UInt64), (2 : Int)))
  (br ((top1 &&& (top1 - (1 : UInt64))) != (0 : UInt64))
  (some ((0 : UInt64), (2 : Int)))
  (chk (!(top1 == 0)) <|
  br ((np0 % top1) == (0 : UInt64))
  (some (np0, (0 : Int)))
  (chk (!(top1 == 0)) <|
  br (decide (((np0 - (np0 % top1)) + top1) < np0))
  (some ((0 : UInt64), (2 : Int)))
  (some ((np0 - (np0 % top1)) + top1, (0 : Int))))))

def ref_common04 (ap0 : UInt64) (np1 : UInt64) (b : UInt64) (m : UInt64) : Option Bool :=
  br (decide (np1 > (0 : UInt64)))
  (br (decide (m > (0 : UInt64)))
  (br (decide (ap0 ≤ b))
  (br (decide ((b - ap0) < np1))
  (some true)
  (br (decide (b < ap0))
  (some (decide ((ap0 - b) < m)))
  (some false)))
  (br (decide (b < ap0))
  (some (decide ((ap0 - b) < m)))
  (some false)))
  (some false))
  (some false)

def ref_Check04L3B (l1 : List UInt64) (l2 : List UInt64) (i1 : Int) (L2 : Int → Option Int) (L3 : Int → Option Int) (k1 : Int) : Option Int :=
  br (decide (k1 < i1))
  (ob (ix l1 i1) fun y6 =>
  ob (ix l2 i1) fun y7 =>
  ob (ix l1 k1) fun y8 =>
  ob (ix l2 k1) fun y9 =>
  ob (ref_common04 y6 y7 y8 y9) fun common1 =>
  br (common1)
  (some (2 : Int))
  (L3 (wi (k1 + (1 : Int)))))
  (L2 (wi (i1 + (1 : Int))))

def ref_Check04L3 (l1 : List UInt64) (l2 : List UInt64) (i1 : Int) (L2 : Int → Option Int) : Nat → Int → Option Int
  | 0, _ => none
  | nf + 1, k1 => ref_Check04L3B l1 l2 i1 L2 (ref_Check04L3 l1 l2 i1 L2 nf) k1

def ref_Check04L2B (l1 : List UInt64) (l2 : List UInt64) (l3 : List UInt64) (L2 : Int → Option Int) (i1 : Int) : Option Int :=
  br (decide (i1 < (3 : Int)))
  (ob (ix l1 i1) fun y1 =>
  ob (ix l3 i1) fun y2 =>
  chk (!(y2 == 0)) <|
  br ((y1 % y2) != (0 : UInt64))
  (some (2 : Int))
  (ob (ix l1 i1) fun y3 =>
  ob (ix l2 i1) fun y4 =>
  ob (ix l1 i1) fun y5 =>
  br (decide ((y3 + (y4 - (1 : UInt64))) < y5))
  (some (2 : Int))
  (ref_Check04L3 l1 l2 i1 L2 fuel (0 : Int))))
  (some (0 : Int))

def Yw (l1 : List UInt64) (l2 : List UInt64) (l3 : List UInt64) : Nat → Int → Option Int
  | 0, _ => none
  | nf + 1, i1 => ref_Check04L2B l1 l2 l3 (Yw l1 l2 l3 nf) i1

def KZ  (l1 : List UInt64) (l2 : List UInt64) (l3 : List UInt64) : Option Int :=
  Yw l1 l2 l3 fuel (0 : Int)

def ref_Check04 (rp0 : Rings) : Option Int :=
  ob (ref_Parts04 rp0) fun parts1 =>
  br (parts1.1 == (0 : UInt64))
  (some (2 : Int))
  (br (rp0.Packed)
  (ob (ix [(16 : UInt64), (2 : UInt64), (4 : UInt64)] (1 : Int)) fun y10 =>
  KZ [rp0.Desc, rp0.Driver, rp0.Device] [parts1.1, parts1.2.1, parts1.2.2] ([(16 : UInt64), (2 : UInt64), (4 : UInt64)].set (1 : Int).toNat (4 : UInt64)))
  (KZ [rp0.Desc, rp0.Driver, rp0.Device] [parts1.1, parts1.2.1, parts1.2.2] [(16 : UInt64), (2 : UInt64), (4 : UInt64)]))

def KY (packed : Bool) (np1 : Int) (base : UInt64) (parts1 : (UInt64 × UInt64 × UInt64)) (to1 : UInt64) : Option (Rings × UInt64 × Int) :=
  ob (ref_Align01 base (16 : UInt64)) fun align1 =>
  ob (ref_Align01 (align1.1 + parts1.1) to1) fun align2 =>
  ob (ref_Align01 (align2.1 + parts1.2.1) (4 : UInt64)) fun align3 =>
  br (align1.2 != (0 : Int))
  (some ((Rings.mk false (0 : Int) (0 : UInt64) (0 : UInt64) (0 : UInt64)), (0 : UInt64), (2 : Int)))
  (br (align2.2 != (0 : Int))
  (some ((Rings.mk false (0 : Int) (0 : UInt64) (0 : UInt64) (0 : UInt64)), (0 : UInt64), (2 : Int)))
  (br (align3.2 != (0 : Int))
  (some ((Rings.mk false (0 : Int) (0 : UInt64) (0 : UInt64) (0 : UInt64)), (0 : UInt64), (2 : Int)))
  (br (decide ((align1.1 + parts1.1) < align1.1))
  (some ((Rings.mk false (0 : Int) (0 : UInt64) (0 : UInt64) (0 : UInt64)), (0 : UInt64), (2 : Int)))
  (br (decide ((align2.1 + parts1.2.1) < align2.1))
  (some ((Rings.mk false (0 : Int) (0 : UInt64) (0 : UInt64) (0 : UInt64)), (0 : UInt64), (2 : Int)))
  (br (decide ((align3.1 + (parts1.2.2 - (1 : UInt64))) < align3.1))
  (some ((Rings.mk false (0 : Int) (0 : UInt64) (0 : UInt64) (0 : UInt64)), (0 : UInt64), (2 : Int)))
  (ob (ref_Check04 (Rings.mk packed np1 align1.1 align2.1 align3.1)) fun check1 =>
  br (check1 != (0 : Int))
  (some ((Rings.mk false (0 : Int) (0 : UInt64) (0 : UInt64) (0 : UInt64)), (0 : UInt64), (2 : Int)))
  (some ((Rings.mk packed np1 align1.1 align2.1 align3.1), (align3.1 + parts1.2.2) - base, (0 : Int)))))))))

def KH (packed : Bool) (np1 : Int) (base : UInt64) : Option (Rings × UInt64 × Int) :=
  ob (ref_Parts04 (Rings.mk packed np1 (0 : UInt64) (0 : UInt64) (0 : UInt64))) fun parts1 =>
  br (parts1.1 == (0 : UInt64))
  (some ((Rings.mk false (0 : Int) (0 : UInt64) (0 : UInt64) (0 : UInt64)), (0 : UInt64), (2 : Int)))
  (br (packed)
  (KY packed np1 base parts1 (4 : UInt64))
  (KY packed np1 base parts1 (2 : UInt64)))

def gmem_CheckL1B (l : List Region) (L1 : UInt64 → Int → Option Int) (room1 : UInt64) (x1 : Int) : Option Int :=
  br (decide (x1 < (len l)))
  (ob (ix l x1) fun r1 =>
  br (decide (r1.Len < (1 : UInt64)))
  (some (2 : Int))
  (br (decide (r1.Len > room1))
  (some (2 : Int))
  (br (decide ((r1.Len - (1 : UInt64)) > ((18446744073709551615 : UInt64) - r1.At)))
  (some (2 : Int))
  (br (decide (x1 > (0 : Int)))
  (ob (ix l (wi (x1 - (1 : Int)))) fun r2 =>
  br (decide (r1.At ≤ r2.At))
  (some (2 : Int))
  (br (decide ((r1.At - r2.At) < r2.Len))
  (some (2 : Int))
  (L1 (room1 - r1.Len) (wi (x1 + (1 : Int))))))
  (L1 (room1 - r1.Len) (wi (x1 + (1 : Int))))))))
  (some (0 : Int))

def KO (l : List Region) : Nat → UInt64 → Int → Option Int
  | 0, _, _ => none
  | nf + 1, room1, x1 => gmem_CheckL1B l (KO l nf) room1 x1

def gmem_Check (l : List Region) : Option Int :=
  br (decide ((len l) > (16 : Int)))
  (some (2 : Int))
  (KO l fuel (1048576 : UInt64) (0 : Int))

def Zk (sp0 : List Region) : Option (List Region) :=
  chk (fits ([] : List Region).length sp0.length 16) <|
  some sp0

def gmem_NewL1B (l : List Region) (region1 : (List Region)) (L1 : (List (List UInt8)) → Int → Option ((Option gmem_Mem) × Int)) (rows1 : List (List UInt8)) (x1 : Int) : Option ((Option gmem_Mem) × Int) :=
  br (decide (x1 < (len l)))
  (ob (ix l x1) fun r1 =>
  chk (decide (0 ≤ (r1.Len.toNat : Int) ∧ (r1.Len.toNat : Int) ≤ (r1.Len.toNat : Int) ∧ (1 : Int) * (r1.Len.toNat : Int) ≤ 140737488355328)) <|
  ob (ix rows1 x1) fun row1 =>
  L1 (rows1.set (Int.toNat x1) (List.replicate (Int.toNat (r1.Len.toNat : Int)) (0 : UInt8))) (wi (x1 + (1 : Int))))
  (some ((some (gmem_Mem.mk region1 rows1)), (0 : Int)))

def gmem_NewL1 (l : List Region) (region1 : (List Region)) : Nat → (List (List UInt8)) → Int → Option ((Option gmem_Mem) × Int)
  | 0, _, _ => none
  | nf + 1, rows1, x1 => gmem_NewL1B l region1 (gmem_NewL1 l region1 nf) rows1 x1

def gmem_New (l : List Region) : Option ((Option gmem_Mem) × Int) :=
  ob (gmem_Check l) fun check1 =>
  br (check1 != (0 : Int))
  (some ((none : Option gmem_Mem), check1))
  (ob (Zk l) fun region1 =>
  chk (decide (0 ≤ (len l) ∧ (len l) ≤ (wi ((len l) + (1 : Int))) ∧ (24 : Int) * (wi ((len l) + (1 : Int))) ≤ 140737488355328)) <|
  gmem_NewL1 l region1 fuel (List.replicate (Int.toNat (len l)) [] : List (List UInt8)) (0 : Int))

def ref_put03L1B (vp1 : UInt64) (np2 : Int) (L1 : (List UInt8) → Int → Option (List UInt8)) (b1 : List UInt8) (i1 : Int) : Option (List UInt8) :=
  br (decide (i1 < np2))
  (chk (fits b1.length [(Kb vp1 ((u64 (wi ((8 : Int) * i1))).toNat)).toUInt8].length 1) <|
  L1 (b1 ++ [(Kb vp1 ((u64 (wi ((8 : Int) * i1))).toNat)).toUInt8]) (wi (i1 + (1 : Int))))
  (some b1)

def ref_put03L1 (vp1 : UInt64) (np2 : Int) : Nat → (List UInt8) → Int → Option (List UInt8)
  | 0, _, _ => none
  | nf + 1, b1, i1 => ref_put03L1B vp1 np2 (ref_put03L1 vp1 np2 nf) b1 i1

def Ku (b : List UInt8) (vp1 : UInt64) (np2 : Int) : Option (List UInt8) :=
  ref_put03L1 vp1 np2 fuel b (0 : Int)

def XX (dp0 : Desc) : Option (List UInt8) :=
  ob (Ku ([] : List UInt8) dp0.Addr (8 : Int)) fun put1 =>
  ob (Ku put1 dp0.Len.toUInt64 (4 : Int)) fun put2 =>
  ob (Ku put2 dp0.Flags.toUInt64 (2 : Int)) fun put3 =>
  ob (Ku put3 dp0.Next.toUInt64 (2 : Int)) fun put4 =>
  some put4

def XU (m : gmem_Mem) : Option Bool :=
  some true

def YB (ip0 : Int) (arg1 : gmem_Mem) (arg2 : UInt64) : Option Bool :=
  ob (ix arg1.l ip0) fun r1 =>
  ob (ix arg1.l ip0) fun r2 =>
  some (decide (((r1.Len - (1 : UInt64)) + r2.At) ≥ arg2))

def ZO (fc0 : gmem_Mem) (fc1 : UInt64) (L1 : Int → Int → Option Int) (i1 : Int) (j1 : Int) : Option Int :=
  br (decide (i1 < j1))
  (ob (YB (i64 (Kb (u64 (wi (i1 + j1))) ((1 : UInt64).toNat))) fc0 fc1) fun bytes1 =>
  br ((!bytes1))
  (L1 (wi ((i64 (Kb (u64 (wi (i1 + j1))) ((1 : UInt64).toNat))) + (1 : Int))) j1)
  (L1 i1 (i64 (Kb (u64 (wi (i1 + j1))) ((1 : UInt64).toNat)))))
  (some i1)

def Zo (fc0 : gmem_Mem) (fc1 : UInt64) : Nat → Int → Int → Option Int
  | 0, _, _ => none
  | nf + 1, i1, j1 => ZO fc0 fc1 (Zo fc0 fc1 nf) i1 j1

def ZF (np0 : Int) (fc0 : gmem_Mem) (fc1 : UInt64) : Option Int :=
  Zo fc0 fc1 fuel (0 : Int) np0

def XY (m : gmem_Mem) (atp1 : UInt64) (np2 : UInt64) : Option (Option (Int × Int × Int)) :=
  br (decide (np2 < (1 : UInt64)))
  (some (none : Option (Int × Int × Int)))
  (ob (ZF (len m.l) m atp1) fun search1 =>
  br (search1 == (len m.l))
  (some (none : Option (Int × Int × Int)))
  (ob (ix m.l search1) fun r1 =>
  br (decide (atp1 < r1.At))
  (some (none : Option (Int × Int × Int)))
  (ob (ix m.l search1) fun r2 =>
  ob (ix m.l search1) fun r3 =>
  br (decide (np2 > (r3.Len - (atp1 - r2.At))))
  (some (none : Option (Int × Int × Int)))
  (ob (ix m.b search1) fun row1 =>
  chk (decide (0 ≤ ((atp1 - r2.At).toNat : Int) ∧ ((atp1 - r2.At).toNat : Int) ≤ (((atp1 - r2.At) + np2).toNat : Int) ∧ (((atp1 - r2.At) + np2).toNat : Int) ≤ len row1)) <|
  some (some (search1, ((atp1 - r2.At).toNat : Int), (((atp1 - r2.At) + np2).toNat : Int)))))))

def Zq (m : gmem_Mem) (atp1 : UInt64) (arg2 : List UInt8) : Option (Int × (List (List UInt8))) :=
  ob (XU m) fun made1 =>
  br ((len arg2) == (0 : Int))
  (some ((0 : Int), m.b))
  (ob (XY m atp1 (u64 (len arg2))) fun bytes1 =>
  onO bytes1
  (some ((5 : Int), m.b))
  (fun w1 =>
  ob (ix m.b w1.1) fun row1 =>
  chk (decide (0 ≤ w1.2.1 ∧ w1.2.1 ≤ w1.2.2 ∧ w1.2.2 ≤ len row1)) <|
  chk (decide (w1.2.1 < w1.2.2)) <|
  some ((0 : Int), m.b.set (Int.toNat w1.1) (copyAt row1 w1.2.1 w1.2.2 arg2))))

def Xj (sp0 : List UInt8) : Option (List UInt8) :=
  chk (fits ([] : List UInt8).length sp0.length 1) <|
  some sp0

def ZV (m : gmem_Mem) (atp1 : UInt64) (np2 : Int) : Option ((List UInt8) × Int) :=
  ob (XU m) fun made1 =>
  br (decide (np2 < (0 : Int)))
  (some (([] : List UInt8), (2 : Int)))
  (br (np2 == (0 : Int))
  (some (([] : List UInt8), (0 : Int)))
  (ob (XY m atp1 (u64 np2)) fun bytes1 =>
  onO bytes1
  (some (([] : List UInt8), (5 : Int)))
  (fun w1 =>
  ob (ix m.b w1.1) fun row1 =>
  chk (decide (0 ≤ w1.2.1 ∧ w1.2.1 ≤ w1.2.2 ∧ w1.2.2 ≤ len row1)) <|
  chk (decide (w1.2.1 < w1.2.2)) <|
  ob (Xj (sub row1 w1.2.1 w1.2.2)) fun cloneb1 =>
  some (cloneb1, (0 : Int)))))

def Kc (np0 : Int) : Option Bool :=
  br (decide (np0 ≥ (1 : Int)))
  (some (decide (np0 ≤ (32768 : Int))))
  (some false)

def serial_Power (np0 : Int) : Option Bool :=
  ob (Kc np0) fun issize1 =>
  br (issize1)
  (some ((andi np0 (wi (np0 - (1 : Int)))) == (0 : Int)))
  (some false)

def layout_isSize (rp0 : Rings) : Option Bool :=
  br (rp0.Packed)
  (br (decide (rp0.Size ≥ (1 : Int)))
  (some (decide (rp0.Size ≤ (32768 : Int))))
  (some false))
  (ob (serial_Power rp0.Size) fun power1 =>
  some power1)

def layout_Parts (rp0 : Rings) : Option (UInt64 × UInt64 × UInt64) :=
  ob (layout_isSize rp0) fun issize1 =>
  br ((!issize1))
  (some ((0 : UInt64), (0 : UInt64), (0 : UInt64)))
  (br (rp0.Packed)
  (some ((16 : UInt64) * (u64 rp0.Size), (4 : UInt64), (4 : UInt64)))
  (some ((16 : UInt64) * (u64 rp0.Size), (6 : UInt64) + ((2 : UInt64) * (u64 rp0.Size)), (6 : UInt64) + ((8 : UInt64) * (u64 rp0.Size)))))

def layout_spans (rp0 : Rings) : Option (A3 (A2 UInt64)) :=
  ob (layout_Parts rp0) fun parts1 =>
  some (A3.mk (A2.mk rp0.Desc parts1.1) (A2.mk rp0.Driver parts1.2.1) (A2.mk rp0.Device parts1.2.2))

def layout_steps (rp0 : Rings) : Option (A3 UInt64) :=
  br (rp0.Packed)
  (some (A3.mk (16 : UInt64) (4 : UInt64) (4 : UInt64)))
  (some (A3.mk (16 : UInt64) (2 : UInt64) (4 : UInt64)))

def Jc (atp0 : UInt64) (np1 : UInt64) : Option Bool :=
  br (decide (np1 > (0 : UInt64)))
  (some (decide ((np1 - (1 : UInt64)) > ((18446744073709551615 : UInt64) - atp0))))
  (some false)

def Jb (atp0 : UInt64) (np1 : UInt64) (top2 : UInt64) (m : UInt64) : Option Bool :=
  br (decide (atp0 ≤ top2))
  (some (decide ((top2 - atp0) < np1)))
  (some (decide ((atp0 - top2) < m)))

def layout_Check (rp0 : Rings) : Option Int :=
  ob (layout_isSize rp0) fun issize1 =>
  br ((!issize1))
  (some (2 : Int))
  (ob (layout_spans rp0) fun spans1 =>
  ob (layout_steps rp0) fun steps1 =>
  chk (!(steps1.a0 == 0)) <|
  br ((spans1.a0.a0 % steps1.a0) != (0 : UInt64))
  (some (2 : Int))
  (ob (Jc spans1.a0.a0 spans1.a0.a1) fun beyond1 =>
  br (beyond1)
  (some (2 : Int))
  (chk (!(steps1.a1 == 0)) <|
  br ((spans1.a1.a0 % steps1.a1) != (0 : UInt64))
  (some (2 : Int))
  (ob (Jc spans1.a1.a0 spans1.a1.a1) fun beyond2 =>
  br (beyond2)
  (some (2 : Int))
  (ob (Jb spans1.a1.a0 spans1.a1.a1 spans1.a0.a0 spans1.a0.a1) fun common1 =>
  br (common1)
  (some (2 : Int))
  (chk (!(steps1.a2 == 0)) <|
  br ((spans1.a2.a0 % steps1.a2) != (0 : UInt64))
  (some (2 : Int))
  (ob (Jc spans1.a2.a0 spans1.a2.a1) fun beyond3 =>
  br (beyond3)
  (some (2 : Int))
  (ob (Jb spans1.a2.a0 spans1.a2.a1 spans1.a0.a0 spans1.a0.a1) fun common2 =>
  br (common2)
  (some (2 : Int))
  (ob (Jb spans1.a2.a0 spans1.a2.a1 spans1.a1.a0 spans1.a1.a1) fun common3 =>
  br (common3)
  (some (2 : Int))
  (some (0 : Int)))))))))))

def KF (m : gmem_Mem) (rp1 : Rings) (packed : Bool) : Option Int :=
  ob (ZV m (0 : UInt64) (0 : Int)) fun YQ =>
  br (YQ.2 != (0 : Int))
  (some YQ.2)
  (ob (layout_Check rp1) fun check1 =>
  br (check1 != (0 : Int))
  (some check1)
  (br (rp1.Packed != packed)
  (some (2 : Int))
  (some (0 : Int))))

def desc_raw_getL1B (rp0 : List UInt8) (atp1 : Int) (np2 : Int) (L1 : UInt64 → Int → Option UInt64) (v1 : UInt64) (x1 : Int) : Option UInt64 :=
  br (decide (x1 < np2))
  (chk (decide (0 ≤ (wi (atp1 + x1)) ∧ (wi (atp1 + x1)) < (16 : Int))) <|
  ob (ix rp0 (wi (atp1 + x1))) fun u1 =>
  chk (decide (0 ≤ wi ((8 : Int) * x1))) <|
  L1 (v1 ||| (Km u1.toUInt64 ((wi ((8 : Int) * x1)).toNat))) (wi (x1 + (1 : Int))))
  (some v1)

def desc_raw_getL1 (rp0 : List UInt8) (atp1 : Int) (np2 : Int) : Nat → UInt64 → Int → Option UInt64
  | 0, _, _ => none
  | nf + 1, v1, x1 => desc_raw_getL1B rp0 atp1 np2 (desc_raw_getL1 rp0 atp1 np2 nf) v1 x1

def XE (rp0 : List UInt8) (atp1 : Int) (np2 : Int) : Option UInt64 :=
  desc_raw_getL1 rp0 atp1 np2 fuel (0 : UInt64) (0 : Int)

def Ji (b : List UInt8) : Option (Desc × Int) :=
  br ((len b) != (16 : Int))
  (some ((Desc.mk (0 : UInt64) (0 : UInt32) (0 : UInt16) (0 : UInt16)), (4 : Int)))
  (chk (Nat.ble 16 b.length) <|
  chk ((b.take 16).length == 16) <|
  ob (XE (b.take 16) (0 : Int) (8 : Int)) fun get1 =>
  ob (XE (b.take 16) (8 : Int) (4 : Int)) fun get2 =>
  ob (XE (b.take 16) (12 : Int) (2 : Int)) fun get3 =>
  ob (XE (b.take 16) (14 : Int) (2 : Int)) fun get4 =>
  some ((Desc.mk get1 get2.toUInt32 get3.toUInt16 get4.toUInt16), (0 : Int)))

def KN (m : gmem_Mem) (atp1 : UInt64) (np2 : UInt64) : Option Bool :=
  ob (XU m) fun made1 =>
  ob (XY m atp1 np2) fun bytes1 =>
  onO bytes1
  (some false)
  (fun w1 =>
  ob (ix m.b w1.1) fun row1 =>
  chk (decide (0 ≤ w1.2.1 ∧ w1.2.1 ≤ w1.2.2 ∧ w1.2.2 ≤ len row1)) <|
  chk (decide (w1.2.1 < w1.2.2)) <|
  some true)

def KJ (m : gmem_Mem) (atp1 : UInt64) (np2 : UInt32) : Option (Int × Int) :=
  br (np2 == (0 : UInt32))
  (some ((0 : Int), (4 : Int)))
  (br ((np2 % (16 : UInt32)) != (0 : UInt32))
  (some ((0 : Int), (4 : Int)))
  (br (decide ((np2 / (16 : UInt32)) > (64 : UInt32)))
  (some ((0 : Int), (4 : Int)))
  (ob (KN m atp1 np2.toUInt64) fun has1 =>
  br ((!has1))
  (some ((0 : Int), (5 : Int)))
  (some (i32 (np2 / (16 : UInt32)), (0 : Int))))))

def Kr (atp0 : UInt64) (np1 : UInt32) (flags : UInt16) : Option Seg :=
  some (Seg.mk atp0 np1 ((flags &&& (2 : UInt16)) != (0 : UInt16)))

def YM (atp0 : UInt64) (size : Int) (arg5 : gmem_Mem) (L1 : Int → Int → Int → Bool → (List Seg) → (List (Int × Bool)) → Option (Int × Int × Bool × (List Seg))) (k1 : Int) (m1 : Int) (m2 : Int) (m3 : Bool) (l1 : List Seg) (map1 : List (Int × Bool)) : Option (Int × Int × Bool × (List Seg)) :=
  br (mget false k1 map1)
  (some ((4 : Int), m2, m3, l1))
  (br (decide (k1 < (0 : Int)))
  (some ((4 : Int), m2, m3, l1))
  (br (decide (k1 ≥ size))
  (some ((4 : Int), m2, m3, l1))
  (ob (ZV arg5 (atp0 + ((16 : UInt64) * (u64 k1))) (16 : Int)) fun YQ =>
  br (YQ.2 != (0 : Int))
  (some ((5 : Int), m2, m3, l1))
  (ob (Ji YQ.1) fun read2 =>
  br ((read2.1.Flags &&& (4 : UInt16)) != (0 : UInt16))
  (some ((4 : Int), wi (m2 + (1 : Int)), m3, l1))
  (ob (Kr read2.1.Addr read2.1.Len read2.1.Flags) fun made1 =>
  chk (fits l1.length [made1].length 16) <|
  br ((read2.1.Flags &&& (1 : UInt16)) == (0 : UInt16))
  (some (m1, wi (m2 + (1 : Int)), m3, l1 ++ [made1]))
  (L1 (i16 read2.1.Next) m1 (wi (m2 + (1 : Int))) m3 (l1 ++ [made1]) (mput k1 true map1)))))))

def XF (atp0 : UInt64) (size : Int) (arg5 : gmem_Mem) : Nat → Int → Int → Int → Bool → (List Seg) → (List (Int × Bool)) → Option (Int × Int × Bool × (List Seg))
  | 0, _, _, _, _, _, _ => none
  | nf + 1, k1, m1, m2, m3, l1, map1 => YM atp0 size arg5 (XF atp0 size arg5 nf) k1 m1 m2 m3 l1 map1

def KS (atp0 : UInt64) (size : Int) (kp2 : Int) (arg4 : Int) (arg5 : gmem_Mem) (arg6 : Int) (arg7 : Bool) (arg9 : List Seg) : Option (Int × Int × Bool × (List Seg)) :=
  XF atp0 size arg5 fuel kp2 arg4 arg6 arg7 arg9 ([] : List (Int × Bool))

def XH  (m4 : Int) (m5 : Int) (m6 : Bool) (l2 : List Seg) : Option (Int × Int × Bool × (List Seg)) :=
  some (m4, m5, m6, l2)

def YN (atp0 : UInt64) (size : Int) (arg5 : gmem_Mem) (L1 : Int → Int → Int → Bool → (List Seg) → (List (Int × Bool)) → Option (Int × Int × Bool × (List Seg))) (k1 : Int) (m1 : Int) (m2 : Int) (m3 : Bool) (l1 : List Seg) (map1 : List (Int × Bool)) : Option (Int × Int × Bool × (List Seg)) :=
  br (mget false k1 map1)
  (some ((4 : Int), m2, m3, l1))
  (br (decide (k1 < (0 : Int)))
  (some ((4 : Int), m2, m3, l1))
  (br (decide (k1 ≥ size))
  (some ((4 : Int), m2, m3, l1))
  (ob (ZV arg5 (atp0 + ((16 : UInt64) * (u64 k1))) (16 : Int)) fun YQ =>
  br (YQ.2 != (0 : Int))
  (some ((5 : Int), m2, m3, l1))
  (ob (Ji YQ.1) fun read2 =>
  br ((read2.1.Flags &&& (4 : UInt16)) != (0 : UInt16))
  (br ((!m3))
  (some ((4 : Int), wi (m2 + (1 : Int)), m3, l1))
  (br ((read2.1.Flags &&& (1 : UInt16)) != (0 : UInt16))
  (some ((4 : Int), wi (m2 + (1 : Int)), m3, l1))
  (ob (KJ arg5 read2.1.Addr read2.1.Len) fun entrie1 =>
  br (entrie1.2 == (0 : Int))
  (ob (KS read2.1.Addr entrie1.1 (0 : Int) entrie1.2 arg5 (wi (m2 + (1 : Int))) m3 l1) fun split1 =>
  XH split1.1 split1.2.1 split1.2.2.1 split1.2.2.2)
  (XH entrie1.2 (wi (m2 + (1 : Int))) m3 l1))))
  (ob (Kr read2.1.Addr read2.1.Len read2.1.Flags) fun made1 =>
  chk (fits l1.length [made1].length 16) <|
  br ((read2.1.Flags &&& (1 : UInt16)) == (0 : UInt16))
  (some (m1, wi (m2 + (1 : Int)), m3, l1 ++ [made1]))
  (L1 (i16 read2.1.Next) m1 (wi (m2 + (1 : Int))) m3 (l1 ++ [made1]) (mput k1 true map1)))))))

def XG (atp0 : UInt64) (size : Int) (arg5 : gmem_Mem) : Nat → Int → Int → Int → Bool → (List Seg) → (List (Int × Bool)) → Option (Int × Int × Bool × (List Seg))
  | 0, _, _, _, _, _, _ => none
  | nf + 1, k1, m1, m2, m3, l1, map1 => YN atp0 size arg5 (XG atp0 size arg5 nf) k1 m1 m2 m3 l1 map1

def KT (atp0 : UInt64) (size : Int) (kp2 : Int) (arg4 : Int) (arg5 : gmem_Mem) (arg6 : Int) (arg7 : Bool) (arg9 : List Seg) : Option (Int × Int × Bool × (List Seg)) :=
  XG atp0 size arg5 fuel kp2 arg4 arg6 arg7 arg9 ([] : List (Int × Bool))

def walk_split (m : gmem_Mem) (rp1 : Rings) (head : Int) (table : Bool) : Option ((List Seg) × Int × Int) :=
  ob (KT rp1.Desc rp1.Size head (0 : Int) m (0 : Int) table ([] : List Seg)) fun split1 =>
  some (split1.2.2.2, split1.2.1, split1.1)

def YT (arg0 : Int) (arg1 : UInt64) : Option Int :=
  br (arg0 == (0 : Int))
  (br (decide (arg1 ≥ (4294967296 : UInt64)))
  (some (2 : Int))
  (some arg0))
  (some arg0)

def seg_CheckL1B (l : List Seg) (L1 : Int → UInt64 → Int → Option Int) (m1 : Int) (m2 : UInt64) (x1 : Int) : Option Int :=
  br (decide (x1 < (len l)))
  (ob (ix l x1) fun s1 =>
  br (decide (s1.Len < (1 : UInt32)))
  (ob (YT (2 : Int) m2) fun check1 =>
  some check1)
  (br (decide ((s1.Len.toUInt64 - (1 : UInt64)) > ((18446744073709551615 : UInt64) - s1.At)))
  (ob (YT (2 : Int) m2) fun check2 =>
  some check2)
  (br (decide (x1 > (0 : Int)))
  (ob (ix l (wi (x1 - (1 : Int)))) fun s2 =>
  br (s2.Write)
  (br ((!s1.Write))
  (ob (YT (2 : Int) m2) fun check3 =>
  some check3)
  (L1 m1 (m2 + s1.Len.toUInt64) (wi (x1 + (1 : Int)))))
  (L1 m1 (m2 + s1.Len.toUInt64) (wi (x1 + (1 : Int)))))
  (L1 m1 (m2 + s1.Len.toUInt64) (wi (x1 + (1 : Int)))))))
  (ob (YT (0 : Int) m2) fun check4 =>
  some check4)

def KG (l : List Seg) : Nat → Int → UInt64 → Int → Option Int
  | 0, _, _, _ => none
  | nf + 1, m1, m2, x1 => seg_CheckL1B l (KG l nf) m1 m2 x1

def seg_Check (l : List Seg) : Option Int :=
  br (decide ((len l) > (64 : Int)))
  (some (3 : Int))
  (KG l fuel (0 : Int) (0 : UInt64) (0 : Int))

def seg_InL1B (m : gmem_Mem) (l : List Seg) (L1 : Int → Option Int) (x1 : Int) : Option Int :=
  br (decide (x1 < (len l)))
  (ob (ix l x1) fun s1 =>
  ob (KN m s1.At s1.Len.toUInt64) fun has1 =>
  br ((!has1))
  (some (5 : Int))
  (L1 (wi (x1 + (1 : Int)))))
  (some (0 : Int))

def seg_InL1 (m : gmem_Mem) (l : List Seg) : Nat → Int → Option Int
  | 0, _ => none
  | nf + 1, x1 => seg_InL1B m l (seg_InL1 m l nf) x1

def seg_In (m : gmem_Mem) (l : List Seg) : Option Int :=
  ob (ZV m (0 : UInt64) (0 : Int)) fun YQ =>
  br (YQ.2 != (0 : Int))
  (some YQ.2)
  (ob (seg_Check l) fun check1 =>
  br (check1 != (0 : Int))
  (some check1)
  (seg_InL1 m l fuel (0 : Int)))

def walk_looked (m : gmem_Mem) (l : List Seg) : Option ((List Seg) × Int) :=
  br ((len l) == (0 : Int))
  (some (([] : List Seg), (4 : Int)))
  (ob (seg_Check l) fun check1 =>
  br (check1 != (0 : Int))
  (some (([] : List Seg), (4 : Int)))
  (ob (seg_In m l) fun in1 =>
  br (in1 != (0 : Int))
  (some (([] : List Seg), in1))
  (some (l, (0 : Int)))))

def Yf (m : gmem_Mem) (rp1 : Rings) (head : Int) (table : Bool) : Option ((List Seg) × Int) :=
  ob (KF m rp1 false) fun refuse1 =>
  br (refuse1 != (0 : Int))
  (some (([] : List Seg), refuse1))
  (ob (walk_split m rp1 head table) fun split1 =>
  br (split1.2.2 != (0 : Int))
  (some (([] : List Seg), split1.2.2))
  (ob (walk_looked m split1.1) fun looked1 =>
  some (looked1.1, looked1.2)))

def Je (ap0 : List Seg) (b : List Seg) (L1 : Int → Option Bool) (i1 : Int) : Option Bool :=
  br (decide (i1 < (len ap0)))
  (ob (ix ap0 i1) fun s1 =>
  ob (ix b i1) fun s2 =>
  br (s1 != s2)
  (some false)
  (L1 (wi (i1 + (1 : Int)))))
  (some true)

def YG (ap0 : List Seg) (b : List Seg) : Nat → Int → Option Bool
  | 0, _ => none
  | nf + 1, i1 => Je ap0 b (YG ap0 b nf) i1

def Yp (ap0 : List Seg) (b : List Seg) : Option Bool :=
  br ((len ap0) != (len b))
  (some false)
  (YG ap0 b fuel (0 : Int))

def law10zlives  : Option Bool :=
  ob (KH false (4 : Int) (0 : UInt64)) fun place1 =>
  ob (gmem_New [(Region.mk (0 : UInt64) (1000 : UInt64))]) fun new1 =>
  onO new1.1
  (none)
  (fun mem1 =>
  br (place1.2.2 != (0 : Int))
  (some false)
  (br (new1.2 != (0 : Int))
  (some false)
  (ob (XX (Desc.mk (200 : UInt64) (4 : UInt32) (1 : UInt16) (0 : UInt16))) fun bytes1 =>
  ob (Zq mem1 (0 : UInt64) bytes1) fun write1 =>
  ob (Yf (gmem_Mem.mk mem1.l write1.2) place1.1 (0 : Int) true) fun split1 =>
  ob (XX (Desc.mk (200 : UInt64) (4 : UInt32) (0 : UInt16) (0 : UInt16))) fun bytes2 =>
  ob (Zq (gmem_Mem.mk mem1.l write1.2) (0 : UInt64) bytes2) fun write2 =>
  ob (XX (Desc.mk (900 : UInt64) (200 : UInt32) (0 : UInt16) (0 : UInt16))) fun bytes3 =>
  ob (Zq (gmem_Mem.mk mem1.l write2.2) (16 : UInt64) bytes3) fun write3 =>
  ob (Yf (gmem_Mem.mk mem1.l write3.2) place1.1 (0 : Int) true) fun split2 =>
  ob (Yf (gmem_Mem.mk mem1.l write3.2) place1.1 (1 : Int) true) fun split3 =>
  br (split1.2 == (4 : Int))
  (br (split2.2 == (0 : Int))
  (ob (Yp split2.1 [(Seg.mk (200 : UInt64) (4 : UInt32) false)]) fun samese1 =>
  br (samese1)
  (some (split3.2 == (5 : Int)))
  (some false))
  (some false))
  (some false))))

def KB (np0 : Int) (m : Int) : Option Int :=
  br (decide (m < (1 : Int)))
  (some (0 : Int))
  (chk (!(m == 0)) <|
  br (decide ((remi np0 m) < (0 : Int)))
  (some (wi ((remi np0 m) + m)))
  (some (remi np0 m)))

def ref_Check02L1B (l : List Region) (L1 : UInt64 → Int → Option Int) (sum1 : UInt64) (i1 : Int) : Option Int :=
  br (decide (i1 < (len l)))
  (ob (ix l i1) fun r1 =>
  br (r1.Len == (0 : UInt64))
  (some (2 : Int))
  (ob (ix l i1) fun r2 =>
  br (decide (r2.Len > (1048576 : UInt64)))
  (some (2 : Int))
  (ob (ix l i1) fun r3 =>
  ob (ix l i1) fun r4 =>
  ob (ix l i1) fun r5 =>
  br (decide ((r3.At + (r4.Len - (1 : UInt64))) < r5.At))
  (some (2 : Int))
  (ob (ix l i1) fun r6 =>
  br (decide (i1 > (0 : Int)))
  (ob (ix l i1) fun r7 =>
  ob (ix l (wi (i1 - (1 : Int)))) fun r8 =>
  ob (ix l (wi (i1 - (1 : Int)))) fun r9 =>
  br (decide (r7.At ≤ (r8.At + (r9.Len - (1 : UInt64)))))
  (some (2 : Int))
  (L1 (sum1 + r6.Len) (wi (i1 + (1 : Int)))))
  (L1 (sum1 + r6.Len) (wi (i1 + (1 : Int))))))))
  (br (decide (sum1 > (1048576 : UInt64)))
  (some (2 : Int))
  (some (0 : Int)))

def Ke (l : List Region) : Nat → UInt64 → Int → Option Int
  | 0, _, _ => none
  | nf + 1, sum1, i1 => ref_Check02L1B l (Ke l nf) sum1 i1

def ref_Check02 (l : List Region) : Option Int :=
  br (decide ((len l) > (16 : Int)))
  (some (2 : Int))
  (Ke l fuel (0 : UInt64) (0 : Int))

def ref_New02L1B (l : List Region) (L1 : (List Region) → (List (List UInt8)) → Int → Option ((Option dumbwaiterref02_Mem) × Int)) (l1 : List Region) (rows1 : List (List UInt8)) (i1 : Int) : Option ((Option dumbwaiterref02_Mem) × Int) :=
  br (decide (i1 < (len l)))
  (ob (ix l i1) fun r1 =>
  chk (decide (0 ≤ (r1.Len.toNat : Int) ∧ (r1.Len.toNat : Int) ≤ (r1.Len.toNat : Int) ∧ (1 : Int) * (r1.Len.toNat : Int) ≤ 140737488355328)) <|
  chk (fits rows1.length 1 24) <|
  L1 l1 (rows1 ++ [List.replicate (Int.toNat (r1.Len.toNat : Int)) (0 : UInt8)]) (wi (i1 + (1 : Int))))
  (some ((some (dumbwaiterref02_Mem.mk l1 rows1)), (0 : Int)))

def ref_New02L1 (l : List Region) : Nat → (List Region) → (List (List UInt8)) → Int → Option ((Option dumbwaiterref02_Mem) × Int)
  | 0, _, _, _ => none
  | nf + 1, l1, rows1, i1 => ref_New02L1B l (ref_New02L1 l nf) l1 rows1 i1

def ref_New02 (l : List Region) : Option ((Option dumbwaiterref02_Mem) × Int) :=
  ob (ref_Check02 l) fun check1 =>
  br (check1 != (0 : Int))
  (some ((none : Option dumbwaiterref02_Mem), (2 : Int)))
  (chk (fits ([] : List Region).length l.length 16) <|
  ref_New02L1 l fuel l ([] : List (List UInt8)) (0 : Int))

def Kd (m : dumbwaiterref02_Mem) (atp1 : UInt64) (np2 : UInt64) (L1 : Int → Option (Int × Int)) (i1 : Int) : Option (Int × Int) :=
  br (decide (i1 < (len m.L)))
  (ob (ix m.L i1) fun r1 =>
  br (decide (np2 ≥ (1 : UInt64)))
  (br (decide (atp1 ≥ r1.At))
  (br (decide (np2 ≤ r1.Len))
  (br (decide ((atp1 - r1.At) ≤ (r1.Len - np2)))
  (some (i1, i64 (atp1 - r1.At)))
  (L1 (wi (i1 + (1 : Int)))))
  (L1 (wi (i1 + (1 : Int)))))
  (L1 (wi (i1 + (1 : Int)))))
  (L1 (wi (i1 + (1 : Int)))))
  (some (((-1) : Int), (0 : Int)))

def Xt (m : dumbwaiterref02_Mem) (atp1 : UInt64) (np2 : UInt64) : Nat → Int → Option (Int × Int)
  | 0, _ => none
  | nf + 1, i1 => Kd m atp1 np2 (Xt m atp1 np2 nf) i1

def Kv (m : dumbwaiterref02_Mem) (atp1 : UInt64) (np2 : UInt64) : Option (Int × Int) :=
  Xt m atp1 np2 fuel (0 : Int)

def Yi (m : dumbwaiterref02_Mem) (atp1 : UInt64) (b : List UInt8) : Option (Int × (List (List UInt8))) :=
  br ((len b) == (0 : Int))
  (some ((0 : Int), m.B))
  (ob (Kv m atp1 (u64 (len b))) fun find1 =>
  br (decide (find1.1 < (0 : Int)))
  (some ((5 : Int), m.B))
  (ob (ix m.B find1.1) fun row1 =>
  chk (decide (0 ≤ find1.2 ∧ find1.2 ≤ (len row1) ∧ (len row1) ≤ len row1)) <|
  some ((0 : Int), m.B.set (Int.toNat find1.1) (copyAt row1 find1.2 (len row1) b))))

def Xc (dp0 : Packed) : Option (List UInt8) :=
  ob (Ku ([] : List UInt8) dp0.Addr (8 : Int)) fun put1 =>
  ob (Ku put1 dp0.Len.toUInt64 (4 : Int)) fun put2 =>
  ob (Ku put2 dp0.ID.toUInt64 (2 : Int)) fun put3 =>
  ob (Ku put3 dp0.Flags.toUInt64 (2 : Int)) fun put4 =>
  some put4

def YV (l : List dumbwaiterlaw10_Spot) (mem1 : gmem_Mem) (mem2 : dumbwaiterref02_Mem) (m1 : Rings) (m2 : Rings) (rows1 : List (List UInt8)) (rows2 : List (List UInt8)) (i1 : Int) (L1 : Rings → Rings → (List (List UInt8)) → (List (List UInt8)) → Int → Option ((Option gmem_Mem) × (Option dumbwaiterref02_Mem) × Rings × Bool)) (b5 : List UInt8) : Option ((Option gmem_Mem) × (Option dumbwaiterref02_Mem) × Rings × Bool) :=
  ob (ix l i1) fun d2 =>
  ob (KB d2.At (750 : Int)) fun pick1 =>
  ob (Zq (gmem_Mem.mk mem1.l rows1) (u64 (wi ((16 : Int) * pick1))) b5) fun write1 =>
  ob (Yi (dumbwaiterref02_Mem.mk mem2.L rows2) (u64 (wi ((16 : Int) * pick1))) b5) fun write2 =>
  L1 m1 m2 write1.2 write2.2 (wi (i1 + (1 : Int)))

def law10zlaidL1B (packed : Bool) (l : List dumbwaiterlaw10_Spot) (mem1 : gmem_Mem) (mem2 : dumbwaiterref02_Mem) (L1 : Rings → Rings → (List (List UInt8)) → (List (List UInt8)) → Int → Option ((Option gmem_Mem) × (Option dumbwaiterref02_Mem) × Rings × Bool)) (m1 : Rings) (m2 : Rings) (rows1 : List (List UInt8)) (rows2 : List (List UInt8)) (i1 : Int) : Option ((Option gmem_Mem) × (Option dumbwaiterref02_Mem) × Rings × Bool) :=
  br (decide (i1 < (len l)))
  (ob (ix l i1) fun d1 =>
  ob (XX d1.Split) fun bytes1 =>
  br (packed)
  (ob (ix l i1) fun d3 =>
  ob (Xc d3.Packed) fun packed1 =>
  YV l mem1 mem2 m1 m2 rows1 rows2 i1 L1 packed1)
  (YV l mem1 mem2 m1 m2 rows1 rows2 i1 L1 bytes1))
  (some ((some (gmem_Mem.mk mem1.l rows1)), (some (dumbwaiterref02_Mem.mk mem2.L rows2)), m2, true))

def XT (packed : Bool) (l : List dumbwaiterlaw10_Spot) (mem1 : gmem_Mem) (mem2 : dumbwaiterref02_Mem) : Nat → Rings → Rings → (List (List UInt8)) → (List (List UInt8)) → Int → Option ((Option gmem_Mem) × (Option dumbwaiterref02_Mem) × Rings × Bool)
  | 0, _, _, _, _, _ => none
  | nf + 1, m1, m2, rows1, rows2, i1 => law10zlaidL1B packed l mem1 mem2 (XT packed l mem1 mem2 nf) m1 m2 rows1 rows2 i1

def KM (size : Int) (packed : Bool) (l : List dumbwaiterlaw10_Spot) : Option ((Option gmem_Mem) × (Option dumbwaiterref02_Mem) × Rings × Bool) :=
  ob (KH packed size (0 : UInt64)) fun place1 =>
  ob (gmem_New [(Region.mk (0 : UInt64) (12000 : UInt64))]) fun new1 =>
  onO new1.1
  (none)
  (fun mem1 =>
  ob (ref_New02 [(Region.mk (0 : UInt64) (12000 : UInt64))]) fun new2 =>
  onO new2.1
  (none)
  (fun mem2 =>
  br (place1.2.2 != (0 : Int))
  (some ((none : Option gmem_Mem), (none : Option dumbwaiterref02_Mem), place1.1, false))
  (br (new1.2 != (0 : Int))
  (some ((none : Option gmem_Mem), (none : Option dumbwaiterref02_Mem), place1.1, false))
  (br (new2.2 != (0 : Int))
  (some ((none : Option gmem_Mem), (none : Option dumbwaiterref02_Mem), place1.1, false))
  (XT packed l mem1 mem2 fuel (Rings.mk false (0 : Int) (0 : UInt64) (0 : UInt64) (0 : UInt64)) place1.1 mem1.b mem2.B (0 : Int))))))

def walk_Reads (m : gmem_Mem) (rp1 : Rings) (head : Int) (table : Bool) : Option Int :=
  ob (KF m rp1 false) fun refuse1 =>
  br (refuse1 != (0 : Int))
  (some (0 : Int))
  (ob (walk_split m rp1 head table) fun split1 =>
  some split1.2.1)

def Yo (pp0 : Pos) (size : Int) : Option Int :=
  ob (Kc size) fun issize1 =>
  br ((!issize1))
  (some (2 : Int))
  (br (decide (pp0.At < (0 : Int)))
  (some (2 : Int))
  (br (decide (pp0.At ≥ size))
  (some (2 : Int))
  (some (0 : Int))))

def Xl (b : List UInt8) : Option (Packed × Int) :=
  br ((len b) != (16 : Int))
  (some ((Packed.mk (0 : UInt64) (0 : UInt32) (0 : UInt16) (0 : UInt16)), (4 : Int)))
  (chk (Nat.ble 16 b.length) <|
  chk ((b.take 16).length == 16) <|
  ob (XE (b.take 16) (0 : Int) (8 : Int)) fun get1 =>
  ob (XE (b.take 16) (8 : Int) (4 : Int)) fun get2 =>
  ob (XE (b.take 16) (12 : Int) (2 : Int)) fun get3 =>
  ob (XE (b.take 16) (14 : Int) (2 : Int)) fun get4 =>
  some ((Packed.mk get1 get2.toUInt32 get3.toUInt16 get4.toUInt16), (0 : Int)))

def KW (pp0 : Pos) (byp1 : Int) (size : Int) : Option (Pos × Int) :=
  ob (Yo pp0 size) fun check1 =>
  br (check1 != (0 : Int))
  (some ((Pos.mk (0 : Int) false), (2 : Int)))
  (br (decide (byp1 < (0 : Int)))
  (some ((Pos.mk (0 : Int) false), (2 : Int)))
  (br (decide (byp1 > size))
  (some ((Pos.mk (0 : Int) false), (2 : Int)))
  (br (decide ((wi (pp0.At + byp1)) ≥ size))
  (some ((Pos.mk (wi ((wi (pp0.At + byp1)) - size)) (!pp0.Wrap)), (0 : Int)))
  (some ((Pos.mk (wi (pp0.At + byp1)) pp0.Wrap), (0 : Int))))))

def Kp (m : gmem_Mem) (atp1 : UInt64) (entrie1 : (Int × Int)) (L1 : (List Seg) → Int → Int → Option ((List Seg) × Int)) (l1 : List Seg) (e1 : Int) (x1 : Int) : Option ((List Seg) × Int) :=
  br (decide (x1 < entrie1.1))
  (ob (ZV m (atp1 + ((16 : UInt64) * (u64 x1))) (16 : Int)) fun YQ =>
  ob (Xl YQ.1) fun readpa1 =>
  br ((readpa1.1.Flags &&& (4 : UInt16)) != (0 : UInt16))
  (some (([] : List Seg), (4 : Int)))
  (ob (Kr readpa1.1.Addr readpa1.1.Len readpa1.1.Flags) fun made1 =>
  chk (fits l1.length [made1].length 16) <|
  L1 (l1 ++ [made1]) e1 (wi (x1 + (1 : Int)))))
  (some (l1, e1))

def Yr (m : gmem_Mem) (atp1 : UInt64) (entrie1 : (Int × Int)) : Nat → (List Seg) → Int → Int → Option ((List Seg) × Int)
  | 0, _, _, _ => none
  | nf + 1, l1, e1, x1 => Kp m atp1 entrie1 (Yr m atp1 entrie1 nf) l1 e1 x1

def walk_within (m : gmem_Mem) (atp1 : UInt64) (np2 : UInt32) : Option ((List Seg) × Int) :=
  ob (KJ m atp1 np2) fun entrie1 =>
  Yr m atp1 entrie1 fuel [] entrie1.2 (0 : Int)

def Kq (m : gmem_Mem) (table : Bool) (L1 : Rings → Pos → Int → Int → (List Seg) → Option (Taken × Int)) (m1 : Rings) (m2 : Pos) (ID1 : Int) (Count1 : Int) (Segs1 : List Seg) : Option (Taken × Int) :=
  br (decide (Count1 < m1.Size))
  (ob (ZV m (m1.Desc + ((16 : UInt64) * (u64 m2.At))) (16 : Int)) fun YQ =>
  br (YQ.2 != (0 : Int))
  (some ((Taken.mk ID1 Count1 Segs1), (5 : Int)))
  (ob (Xl YQ.1) fun readpa1 =>
  ob (KW m2 (1 : Int) m1.Size) fun go1 =>
  br ((readpa1.1.Flags &&& (4 : UInt16)) != (0 : UInt16))
  (br ((!table))
  (some ((Taken.mk (i16 readpa1.1.ID) (wi (Count1 + (1 : Int))) Segs1), (4 : Int)))
  (br (decide ((wi (Count1 + (1 : Int))) > (1 : Int)))
  (some ((Taken.mk (i16 readpa1.1.ID) (wi (Count1 + (1 : Int))) Segs1), (4 : Int)))
  (br ((readpa1.1.Flags &&& (1 : UInt16)) != (0 : UInt16))
  (some ((Taken.mk (i16 readpa1.1.ID) (wi (Count1 + (1 : Int))) Segs1), (4 : Int)))
  (ob (walk_within m readpa1.1.Addr readpa1.1.Len) fun within1 =>
  some ((Taken.mk (i16 readpa1.1.ID) (wi (Count1 + (1 : Int))) within1.1), within1.2)))))
  (ob (Kr readpa1.1.Addr readpa1.1.Len readpa1.1.Flags) fun made1 =>
  chk (fits Segs1.length [made1].length 16) <|
  br ((readpa1.1.Flags &&& (1 : UInt16)) == (0 : UInt16))
  (some ((Taken.mk (i16 readpa1.1.ID) (wi (Count1 + (1 : Int))) (Segs1 ++ [made1])), (0 : Int)))
  (L1 m1 go1.1 (i16 readpa1.1.ID) (wi (Count1 + (1 : Int))) (Segs1 ++ [made1])))))
  (some ((Taken.mk ID1 Count1 Segs1), (4 : Int)))

def Ys (m : gmem_Mem) (table : Bool) : Nat → Rings → Pos → Int → Int → (List Seg) → Option (Taken × Int)
  | 0, _, _, _, _, _ => none
  | nf + 1, m1, m2, ID1, Count1, Segs1 => Kq m table (Ys m table nf) m1 m2 ID1 Count1 Segs1

def walk_packed (m : gmem_Mem) (rp1 : Rings) (pp2 : Pos) (table : Bool) : Option (Taken × Int) :=
  Ys m table fuel rp1 pp2 (0 : Int) (0 : Int) ([] : List Seg)

def Yt  (ID1 : Int) (Count1 : Int) (Segs1 : List Seg) (e3 : Int) (ID2 : Int) (Count2 : Int) (Segs2 : List Seg) : Option (Taken × Int) :=
  br (e3 != (0 : Int))
  (some ((Taken.mk (0 : Int) (0 : Int) ([] : List Seg)), e3))
  (some ((Taken.mk ID2 Count2 Segs2), (0 : Int)))

def Yu (m : gmem_Mem) (packed1 : (Taken × Int)) (e2 : Int) : Option (Taken × Int) :=
  br (e2 == (0 : Int))
  (ob (walk_looked m packed1.1.Segs) fun looked1 =>
  Yt (0 : Int) (0 : Int) ([] : List Seg) looked1.2 packed1.1.ID packed1.1.Count looked1.1)
  (Yt (0 : Int) (0 : Int) ([] : List Seg) e2 packed1.1.ID packed1.1.Count packed1.1.Segs)

def Yv (m : gmem_Mem) (rp1 : Rings) (pp2 : Pos) (table : Bool) (e1 : Int) : Option (Taken × Int) :=
  br (e1 != (0 : Int))
  (some ((Taken.mk (0 : Int) (0 : Int) ([] : List Seg)), e1))
  (ob (walk_packed m rp1 pp2 table) fun packed1 =>
  br (packed1.2 == (0 : Int))
  (br (decide (packed1.1.ID ≥ rp1.Size))
  (Yu m packed1 (4 : Int))
  (Yu m packed1 packed1.2))
  (some ((Taken.mk (0 : Int) (0 : Int) ([] : List Seg)), packed1.2)))

def YR (m : gmem_Mem) (rp1 : Rings) (pp2 : Pos) (table : Bool) : Option (Taken × Int) :=
  ob (KF m rp1 true) fun refuse1 =>
  br (refuse1 == (0 : Int))
  (ob (Yo pp2 rp1.Size) fun check1 =>
  br (check1 != (0 : Int))
  (Yv m rp1 pp2 table (2 : Int))
  (Yv m rp1 pp2 table refuse1))
  (some ((Taken.mk (0 : Int) (0 : Int) ([] : List Seg)), refuse1))

def ref_get03L1B (b : List UInt8) (atp1 : Int) (L1 : UInt64 → Int → Option UInt64) (v1 : UInt64) (i1 : Int) : Option UInt64 :=
  br (decide (i1 ≥ (0 : Int)))
  (ob (ix b (wi (atp1 + i1))) fun y1 =>
  L1 (((256 : UInt64) * v1) + y1.toUInt64) (wi (i1 - (1 : Int))))
  (some v1)

def ref_get03L1 (b : List UInt8) (atp1 : Int) : Nat → UInt64 → Int → Option UInt64
  | 0, _, _ => none
  | nf + 1, v1, i1 => ref_get03L1B b atp1 (ref_get03L1 b atp1 nf) v1 i1

def ref_get03 (b : List UInt8) (atp1 : Int) (np2 : Int) : Option UInt64 :=
  ref_get03L1 b atp1 fuel (0 : UInt64) (wi (np2 - (1 : Int)))

def ref_Read03 (b : List UInt8) : Option (Desc × Int) :=
  br ((len b) != (16 : Int))
  (some ((Desc.mk (0 : UInt64) (0 : UInt32) (0 : UInt16) (0 : UInt16)), (4 : Int)))
  (ob (ref_get03 b (0 : Int) (8 : Int)) fun get1 =>
  ob (ref_get03 b (8 : Int) (4 : Int)) fun get2 =>
  ob (ref_get03 b (12 : Int) (2 : Int)) fun get3 =>
  ob (ref_get03 b (14 : Int) (2 : Int)) fun get4 =>
  some ((Desc.mk get1 get2.toUInt32 get3.toUInt16 get4.toUInt16), (0 : Int)))

def ref_ReadPacked03 (b : List UInt8) : Option (Packed × Int) :=
  br ((len b) != (16 : Int))
  (some ((Packed.mk (0 : UInt64) (0 : UInt32) (0 : UInt16) (0 : UInt16)), (4 : Int)))
  (ob (ref_get03 b (0 : Int) (8 : Int)) fun get1 =>
  ob (ref_get03 b (8 : Int) (4 : Int)) fun get2 =>
  ob (ref_get03 b (12 : Int) (2 : Int)) fun get3 =>
  ob (ref_get03 b (14 : Int) (2 : Int)) fun get4 =>
  some ((Packed.mk get1 get2.toUInt32 get3.toUInt16 get4.toUInt16), (0 : Int)))

def Jd (ap0 : Taken) (b : Taken) : Option Bool :=
  br (ap0.ID == b.ID)
  (br (ap0.Count == b.Count)
  (ob (Yp ap0.Segs b.Segs) fun samese1 =>
  some samese1)
  (some false))
  (some false)

def build_Needs (l : List Seg) (table : Bool) : Option Int :=
  ob (seg_Check l) fun check1 =>
  br (check1 != (0 : Int))
  (some (0 : Int))
  (br ((len l) == (0 : Int))
  (some (0 : Int))
  (br (table)
  (some (1 : Int))
  (some (len l))))

def Jj (arg0 : Bool) : Option Int :=
  br (arg0)
  (some (2 : Int))
  (some (0 : Int))

def Zy (is : Bool) : Option (Option Int) :=
  some (Jj is)

def YH (arg0 : List Seg) : Option Int :=
  ob (seg_Check arg0) fun check1 =>
  br (check1 != (0 : Int))
  (some check1)
  (ob (Zy ((len arg0) == (0 : Int))) fun wrong1 =>
  ob (wrong1) fun y1 =>
  some y1)

def Yq (l : List Seg) : Option (Option Int) :=
  some (YH l)

def build_isID (np0 : Int) : Option Bool :=
  br (decide (np0 ≥ (0 : Int)))
  (some (decide (np0 < (32768 : Int))))
  (some false)

def build_apartL1B (ids : List Int) (L1 : (List (Int × Bool)) → Int → Option Bool) (map1 : List (Int × Bool)) (x1 : Int) : Option Bool :=
  br (decide (x1 < (len ids)))
  (ob (ix ids x1) fun y1 =>
  ob (build_isID y1) fun isid1 =>
  br ((!isid1))
  (some false)
  (br (mget false y1 map1)
  (some false)
  (L1 (mput y1 true map1) (wi (x1 + (1 : Int))))))
  (some true)

def Kk (ids : List Int) : Nat → (List (Int × Bool)) → Int → Option Bool
  | 0, _, _ => none
  | nf + 1, map1, x1 => build_apartL1B ids (Kk ids nf) map1 x1

def build_apart (ids : List Int) : Option Bool :=
  Kk ids fuel ([] : List (Int × Bool)) (0 : Int)

def build_firstL1B (l : List (Option Int)) (L1 : Int → Option Int) (x1 : Int) : Option Int :=
  br (decide (x1 < (len l)))
  (ob (ix l x1) fun y1 =>
  ob (y1) fun y2 =>
  br (y2 != (0 : Int))
  (some y2)
  (L1 (wi (x1 + (1 : Int)))))
  (some (0 : Int))

def build_firstL1 (l : List (Option Int)) : Nat → Int → Option Int
  | 0, _ => none
  | nf + 1, x1 => build_firstL1B l (build_firstL1 l nf) x1

def Zs (l : List (Option Int)) : Option Int :=
  build_firstL1 l fuel (0 : Int)

def Xp (more : Bool) (m1 : build_split) : Option build_split :=
  br (more)
  (some (build_split.mk (Desc.mk m1.Desc.Addr m1.Desc.Len (m1.Desc.Flags ||| (1 : UInt16)) (u16 m1.next)) m1.next))
  (some m1)

def YC (dp0 : build_split) (sp1 : Seg) (more : Bool) : Option build_split :=
  br (sp1.Write)
  (Xp more (build_split.mk (Desc.mk sp1.At sp1.Len ((0 : UInt16) ||| (2 : UInt16)) (0 : UInt16)) dp0.next))
  (Xp more (build_split.mk (Desc.mk sp1.At sp1.Len (0 : UInt16) (0 : UInt16)) dp0.next))

def Xi (l : List Seg) (of : Int → Option build_split) (L1 : (List build_split) → Int → Option (List build_split)) (out1 : List build_split) (x1 : Int) : Option (List build_split) :=
  br (decide (x1 < (len l)))
  (ob (ix l x1) fun s1 =>
  ob (of x1) fun y1 =>
  ob (YC y1 s1 (decide ((wi (x1 + (1 : Int))) < (len l)))) fun made1 =>
  chk (fits out1.length [made1].length 24) <|
  L1 (out1 ++ [made1]) (wi (x1 + (1 : Int))))
  (some out1)

def ZJ (l : List Seg) (of : Int → Option build_split) : Nat → (List build_split) → Int → Option (List build_split)
  | 0, _, _ => none
  | nf + 1, out1, x1 => Xi l of (ZJ l of nf) out1 x1

def Zn (l : List Seg) (of : Int → Option build_split) : Option (List build_split) :=
  chk (decide (0 ≤ (0 : Int) ∧ (0 : Int) ≤ (len l) ∧ (24 : Int) * (len l) ≤ 140737488355328)) <|
  ZJ l of fuel (List.replicate (0 : Int).toNat (build_split.mk (Desc.mk (0 : UInt64) (0 : UInt32) (0 : UInt16) (0 : UInt16)) (0 : Int))) (0 : Int)

def Xy (ip0 : Int) (arg1 : List Int) : Option build_split :=
  br (decide ((wi (ip0 + (1 : Int))) < (len arg1)))
  (ob (ix arg1 (wi (ip0 + (1 : Int)))) fun y1 =>
  some (build_split.mk (Desc.mk (0 : UInt64) (0 : UInt32) (0 : UInt16) (0 : UInt16)) y1))
  (some (build_split.mk (Desc.mk (0 : UInt64) (0 : UInt32) (0 : UInt16) (0 : UInt16)) (0 : Int)))

def Ky (ids : List Int) (split1 : (List build_split)) (L1 : (List Put) → (List build_split) → Int → Option ((List Put) × Int)) (out1 : List Put) (l1 : List build_split) (x1 : Int) : Option ((List Put) × Int) :=
  br (decide (x1 < (len split1)))
  (ob (ix l1 x1) fun b2 =>
  ob (ix ids x1) fun y1 =>
  chk (fits out1.length [(Put.mk y1 b2.Desc)].length 24) <|
  L1 (out1 ++ [(Put.mk y1 b2.Desc)]) l1 (wi (x1 + (1 : Int))))
  (some (out1, (0 : Int)))

def Xz (ids : List Int) (split1 : (List build_split)) : Nat → (List Put) → (List build_split) → Int → Option ((List Put) × Int)
  | 0, _, _, _ => none
  | nf + 1, out1, l1, x1 => Ky ids split1 (Xz ids split1 nf) out1 l1 x1

def build_SplitL2B (ids : List Int) (split2 : (List build_split)) (L2 : (List Put) → (List build_split) → Int → Option ((List Put) × Int)) (out2 : List Put) (l2 : List build_split) (x2 : Int) : Option ((List Put) × Int) :=
  br (decide (x2 < (len split2)))
  (ob (ix l2 x2) fun b4 =>
  ob (ix ids x2) fun y2 =>
  chk (fits out2.length [(Put.mk y2 b4.Desc)].length 24) <|
  L2 (out2 ++ [(Put.mk y2 b4.Desc)]) l2 (wi (x2 + (1 : Int))))
  (some (out2, (0 : Int)))

def Kl (ids : List Int) (split2 : (List build_split)) : Nat → (List Put) → (List build_split) → Int → Option ((List Put) × Int)
  | 0, _, _, _ => none
  | nf + 1, out2, l2, x2 => build_SplitL2B ids split2 (Kl ids split2 nf) out2 l2 x2

def build_Split (ids : List Int) (l : List Seg) : Option ((List Put) × Int) :=
  ob (Yq l) fun buffer1 =>
  br ((len ids) != (len l))
  (ob (Zy true) fun wrong1 =>
  ob (Zs [buffer1, wrong1]) fun first1 =>
  br (first1 != (0 : Int))
  (some (([] : List Put), first1))
  (ob (Zn l (fun x => Xy x ids)) fun split1 =>
  Xz ids split1 fuel [] split1 (0 : Int)))
  (ob (build_apart ids) fun apart1 =>
  ob (Zy (!apart1)) fun wrong2 =>
  ob (Zs [buffer1, wrong2]) fun first2 =>
  br (first2 != (0 : Int))
  (some (([] : List Put), first2))
  (ob (Zn l (fun x => Xy x ids)) fun split2 =>
  Kl ids split2 fuel [] split2 (0 : Int)))

def desc_raw_putL1B (atp1 : Int) (np2 : Int) (vp3 : UInt64) (L1 : (List UInt8) → Int → Option (List UInt8)) (m1 : List UInt8) (x1 : Int) : Option (List UInt8) :=
  br (decide (x1 < np2))
  (chk (decide (0 ≤ wi ((8 : Int) * x1))) <|
  chk (decide (0 ≤ (wi (atp1 + x1)) ∧ (wi (atp1 + x1)) < (16 : Int))) <|
  chk (decide (0 ≤ (wi (atp1 + x1)) ∧ (wi (atp1 + x1)) < (m1.length : Int))) <|
  L1 (m1.set (wi (atp1 + x1)).toNat ((Kb vp3 ((wi ((8 : Int) * x1)).toNat)).toUInt8)) (wi (x1 + (1 : Int))))
  (some m1)

def desc_raw_putL1 (atp1 : Int) (np2 : Int) (vp3 : UInt64) : Nat → (List UInt8) → Int → Option (List UInt8)
  | 0, _, _ => none
  | nf + 1, m1, x1 => desc_raw_putL1B atp1 np2 vp3 (desc_raw_putL1 atp1 np2 vp3 nf) m1 x1

def XD (rp0 : List UInt8) (atp1 : Int) (np2 : Int) (vp3 : UInt64) : Option (List UInt8) :=
  desc_raw_putL1 atp1 np2 vp3 fuel rp0 (0 : Int)

def desc_Bytes (dp0 : Desc) : Option (List UInt8) :=
  ob (XD (List.replicate 16 0) (0 : Int) (8 : Int) dp0.Addr) fun put1 =>
  ob (XD put1 (8 : Int) (4 : Int) dp0.Len.toUInt64) fun put2 =>
  ob (XD put2 (12 : Int) (2 : Int) dp0.Flags.toUInt64) fun put3 =>
  ob (XD put3 (14 : Int) (2 : Int) dp0.Next.toUInt64) fun put4 =>
  chk (put4.length == 16) <|
  some put4

def desc_TableL1B (l : List Desc) (L1 : (List UInt8) → Int → Option (List UInt8)) (b1 : List UInt8) (x1 : Int) : Option (List UInt8) :=
  br (decide (x1 < (len l)))
  (ob (ix l x1) fun d1 =>
  ob (desc_Bytes d1) fun bytes1 =>
  chk (fits b1.length bytes1.length 1) <|
  L1 (b1 ++ bytes1) (wi (x1 + (1 : Int))))
  (some b1)

def KP (l : List Desc) : Nat → (List UInt8) → Int → Option (List UInt8)
  | 0, _, _ => none
  | nf + 1, b1, x1 => desc_TableL1B l (KP l nf) b1 x1

def desc_Table (l : List Desc) : Option (List UInt8) :=
  KP l fuel [] (0 : Int)

def Xq (ip0 : Int) : Option build_split :=
  some (build_split.mk (Desc.mk (0 : UInt64) (0 : UInt32) (0 : UInt16) (0 : UInt16)) (wi (ip0 + (1 : Int))))

def YA (split1 : (List build_split)) (L1 : (List Desc) → (List build_split) → Int → Option ((List UInt8) × Int)) (out1 : List Desc) (l1 : List build_split) (x1 : Int) : Option ((List UInt8) × Int) :=
  br (decide (x1 < (len split1)))
  (ob (ix l1 x1) fun b1 =>
  chk (fits out1.length [b1.Desc].length 16) <|
  L1 (out1 ++ [b1.Desc]) l1 (wi (x1 + (1 : Int))))
  (ob (desc_Table out1) fun table1 =>
  some (table1, (0 : Int)))

def Xr (split1 : (List build_split)) : Nat → (List Desc) → (List build_split) → Int → Option ((List UInt8) × Int)
  | 0, _, _, _ => none
  | nf + 1, out1, l1, x1 => YA split1 (Xr split1 nf) out1 l1 x1

def YD (l : List Seg) : Option ((List UInt8) × Int) :=
  ob (Yq l) fun buffer1 =>
  ob (Zs [buffer1]) fun first1 =>
  br (first1 != (0 : Int))
  (some (([] : List UInt8), first1))
  (ob (Zn l (fun x => Xq x)) fun split1 =>
  Xr split1 fuel [] split1 (0 : Int))

def desc_MarkJ1 (wrap : Bool) (used : Bool) (flags1 : UInt16) : Option UInt16 :=
  br (wrap == used)
  (some (flags1 ||| (32768 : UInt16)))
  (some flags1)

def Kw (flags : UInt16) (wrap : Bool) (used : Bool) : Option UInt16 :=
  br (wrap)
  (desc_MarkJ1 wrap used ((flags &&& ~~~(32896 : UInt16)) ||| (128 : UInt16)))
  (desc_MarkJ1 wrap used (flags &&& ~~~(32896 : UInt16)))

def Xd  (m2 : build_packed) : Option build_packed :=
  ob (Kw m2.Packed.Flags m2.wrap false) fun mark1 =>
  some (build_packed.mk (Packed.mk m2.Packed.Addr m2.Packed.Len m2.Packed.ID mark1) m2.id m2.wrap)

def Xe (more : Bool) (m1 : build_packed) : Option build_packed :=
  br (more)
  (Xd (build_packed.mk (Packed.mk m1.Packed.Addr m1.Packed.Len m1.Packed.ID (m1.Packed.Flags ||| (1 : UInt16))) m1.id m1.wrap))
  (Xd m1)

def Yj (dp0 : build_packed) (sp1 : Seg) (more : Bool) : Option build_packed :=
  br (sp1.Write)
  (Xe more (build_packed.mk (Packed.mk sp1.At sp1.Len (u16 dp0.id) ((0 : UInt16) ||| (2 : UInt16))) dp0.id dp0.wrap))
  (Xe more (build_packed.mk (Packed.mk sp1.At sp1.Len (u16 dp0.id) (0 : UInt16)) dp0.id dp0.wrap))

def Xb (l : List Seg) (of : Int → Option build_packed) (L1 : (List build_packed) → Int → Option (List build_packed)) (out1 : List build_packed) (x1 : Int) : Option (List build_packed) :=
  br (decide (x1 < (len l)))
  (ob (ix l x1) fun s1 =>
  ob (of x1) fun y1 =>
  ob (Yj y1 s1 (decide ((wi (x1 + (1 : Int))) < (len l)))) fun made1 =>
  chk (fits out1.length [made1].length 32) <|
  L1 (out1 ++ [made1]) (wi (x1 + (1 : Int))))
  (some out1)

def ZB (l : List Seg) (of : Int → Option build_packed) : Nat → (List build_packed) → Int → Option (List build_packed)
  | 0, _, _ => none
  | nf + 1, out1, x1 => Xb l of (ZB l of nf) out1 x1

def Zi (l : List Seg) (of : Int → Option build_packed) : Option (List build_packed) :=
  chk (decide (0 ≤ (0 : Int) ∧ (0 : Int) ≤ (len l) ∧ (32 : Int) * (len l) ≤ 140737488355328)) <|
  ZB l of fuel (List.replicate (0 : Int).toNat (build_packed.mk (Packed.mk (0 : UInt64) (0 : UInt32) (0 : UInt16) (0 : UInt16)) (0 : Int) false)) (0 : Int)

def ZM (ip0 : Int) (arg1 : Int) (arg2 : List Pos) : Option build_packed :=
  ob (ix arg2 ip0) fun p1 =>
  some (build_packed.mk (Packed.mk (0 : UInt64) (0 : UInt32) (0 : UInt16) (0 : UInt16)) arg1 p1.Wrap)

def build_PackedL2B (m3 : List Pos) (packed1 : (List build_packed)) (L2 : (List PutPacked) → (List build_packed) → Int → Option ((List PutPacked) × Int)) (out1 : List PutPacked) (l1 : List build_packed) (x2 : Int) : Option ((List PutPacked) × Int) :=
  br (decide (x2 < (len packed1)))
  (ob (ix l1 x2) fun b4 =>
  ob (ix m3 x2) fun p1 =>
  chk (fits out1.length [(PutPacked.mk p1.At b4.Packed)].length 24) <|
  L2 (out1 ++ [(PutPacked.mk p1.At b4.Packed)]) l1 (wi (x2 + (1 : Int))))
  (some (out1, (0 : Int)))

def build_PackedL2 (m3 : List Pos) (packed1 : (List build_packed)) : Nat → (List PutPacked) → (List build_packed) → Int → Option ((List PutPacked) × Int)
  | 0, _, _, _ => none
  | nf + 1, out1, l1, x2 => build_PackedL2B m3 packed1 (build_PackedL2 m3 packed1 nf) out1 l1 x2

def build_PackedL1B (size : Int) (l : List Seg) (L1 : Pos → Int → (List Pos) → Int → Option ((List PutPacked) × Int)) (m1 : Pos) (m2 : Int) (m3 : List Pos) (x1 : Int) : Option ((List PutPacked) × Int) :=
  br (decide (x1 < (len l)))
  (chk (fits m3.length [m1].length 16) <|
  ob (KW m1 (1 : Int) size) fun go1 =>
  L1 go1.1 m2 (m3 ++ [m1]) (wi (x1 + (1 : Int))))
  (ob (Zi l (fun x => ZM x m2 m3)) fun packed1 =>
  build_PackedL2 m3 packed1 fuel [] packed1 (0 : Int))

def build_PackedL1 (size : Int) (l : List Seg) : Nat → Pos → Int → (List Pos) → Int → Option ((List PutPacked) × Int)
  | 0, _, _, _, _ => none
  | nf + 1, m1, m2, m3, x1 => build_PackedL1B size l (build_PackedL1 size l nf) m1 m2 m3 x1

def build_PackedL4B (m6 : List Pos) (packed2 : (List build_packed)) (L4 : (List PutPacked) → (List build_packed) → Int → Option ((List PutPacked) × Int)) (out2 : List PutPacked) (l2 : List build_packed) (x4 : Int) : Option ((List PutPacked) × Int) :=
  br (decide (x4 < (len packed2)))
  (ob (ix l2 x4) fun b7 =>
  ob (ix m6 x4) fun p4 =>
  chk (fits out2.length [(PutPacked.mk p4.At b7.Packed)].length 24) <|
  L4 (out2 ++ [(PutPacked.mk p4.At b7.Packed)]) l2 (wi (x4 + (1 : Int))))
  (some (out2, (0 : Int)))

def build_PackedL4 (m6 : List Pos) (packed2 : (List build_packed)) : Nat → (List PutPacked) → (List build_packed) → Int → Option ((List PutPacked) × Int)
  | 0, _, _, _ => none
  | nf + 1, out2, l2, x4 => build_PackedL4B m6 packed2 (build_PackedL4 m6 packed2 nf) out2 l2 x4

def build_PackedL3B (size : Int) (l : List Seg) (L3 : Pos → Int → (List Pos) → Int → Option ((List PutPacked) × Int)) (m4 : Pos) (m5 : Int) (m6 : List Pos) (x3 : Int) : Option ((List PutPacked) × Int) :=
  br (decide (x3 < (len l)))
  (chk (fits m6.length [m4].length 16) <|
  ob (KW m4 (1 : Int) size) fun go2 =>
  L3 go2.1 m5 (m6 ++ [m4]) (wi (x3 + (1 : Int))))
  (ob (Zi l (fun x => ZM x m5 m6)) fun packed2 =>
  build_PackedL4 m6 packed2 fuel [] packed2 (0 : Int))

def build_PackedL3 (size : Int) (l : List Seg) : Nat → Pos → Int → (List Pos) → Int → Option ((List PutPacked) × Int)
  | 0, _, _, _, _ => none
  | nf + 1, m4, m5, m6, x3 => build_PackedL3B size l (build_PackedL3 size l nf) m4 m5 m6 x3

def build_PackedL6B (m9 : List Pos) (packed3 : (List build_packed)) (L6 : (List PutPacked) → (List build_packed) → Int → Option ((List PutPacked) × Int)) (out3 : List PutPacked) (l3 : List build_packed) (x6 : Int) : Option ((List PutPacked) × Int) :=
  br (decide (x6 < (len packed3)))
  (ob (ix l3 x6) fun b10 =>
  ob (ix m9 x6) fun p7 =>
  chk (fits out3.length [(PutPacked.mk p7.At b10.Packed)].length 24) <|
  L6 (out3 ++ [(PutPacked.mk p7.At b10.Packed)]) l3 (wi (x6 + (1 : Int))))
  (some (out3, (0 : Int)))

def build_PackedL6 (m9 : List Pos) (packed3 : (List build_packed)) : Nat → (List PutPacked) → (List build_packed) → Int → Option ((List PutPacked) × Int)
  | 0, _, _, _ => none
  | nf + 1, out3, l3, x6 => build_PackedL6B m9 packed3 (build_PackedL6 m9 packed3 nf) out3 l3 x6

def build_PackedL5B (size : Int) (l : List Seg) (L5 : Pos → Int → (List Pos) → Int → Option ((List PutPacked) × Int)) (m7 : Pos) (m8 : Int) (m9 : List Pos) (x5 : Int) : Option ((List PutPacked) × Int) :=
  br (decide (x5 < (len l)))
  (chk (fits m9.length [m7].length 16) <|
  ob (KW m7 (1 : Int) size) fun go3 =>
  L5 go3.1 m8 (m9 ++ [m7]) (wi (x5 + (1 : Int))))
  (ob (Zi l (fun x => ZM x m8 m9)) fun packed3 =>
  build_PackedL6 m9 packed3 fuel [] packed3 (0 : Int))

def build_PackedL5 (size : Int) (l : List Seg) : Nat → Pos → Int → (List Pos) → Int → Option ((List PutPacked) × Int)
  | 0, _, _, _, _ => none
  | nf + 1, m7, m8, m9, x5 => build_PackedL5B size l (build_PackedL5 size l nf) m7 m8 m9 x5

def Jk (m12 : List Pos) (packed4 : (List build_packed)) (L8 : (List PutPacked) → (List build_packed) → Int → Option ((List PutPacked) × Int)) (out4 : List PutPacked) (l4 : List build_packed) (x8 : Int) : Option ((List PutPacked) × Int) :=
  br (decide (x8 < (len packed4)))
  (ob (ix l4 x8) fun b13 =>
  ob (ix m12 x8) fun p10 =>
  chk (fits out4.length [(PutPacked.mk p10.At b13.Packed)].length 24) <|
  L8 (out4 ++ [(PutPacked.mk p10.At b13.Packed)]) l4 (wi (x8 + (1 : Int))))
  (some (out4, (0 : Int)))

def YI (m12 : List Pos) (packed4 : (List build_packed)) : Nat → (List PutPacked) → (List build_packed) → Int → Option ((List PutPacked) × Int)
  | 0, _, _, _ => none
  | nf + 1, out4, l4, x8 => Jk m12 packed4 (YI m12 packed4 nf) out4 l4 x8

def Jl (size : Int) (l : List Seg) (L7 : Pos → Int → (List Pos) → Int → Option ((List PutPacked) × Int)) (m10 : Pos) (m11 : Int) (m12 : List Pos) (x7 : Int) : Option ((List PutPacked) × Int) :=
  br (decide (x7 < (len l)))
  (chk (fits m12.length [m10].length 16) <|
  ob (KW m10 (1 : Int) size) fun go4 =>
  L7 go4.1 m11 (m12 ++ [m10]) (wi (x7 + (1 : Int))))
  (ob (Zi l (fun x => ZM x m11 m12)) fun packed4 =>
  YI m12 packed4 fuel [] packed4 (0 : Int))

def YJ (size : Int) (l : List Seg) : Nat → Pos → Int → (List Pos) → Int → Option ((List PutPacked) × Int)
  | 0, _, _, _, _ => none
  | nf + 1, m10, m11, m12, x7 => Jl size l (YJ size l nf) m10 m11 m12 x7

def build_Packed (pp0 : Pos) (size : Int) (id : Int) (l : List Seg) : Option ((List PutPacked) × Int) :=
  ob (Yq l) fun buffer1 =>
  ob (Yo pp0 size) fun check1 =>
  br (check1 != (0 : Int))
  (ob (Zy true) fun wrong1 =>
  ob (Zs [buffer1, wrong1]) fun first1 =>
  br (first1 != (0 : Int))
  (some (([] : List PutPacked), first1))
  (build_PackedL1 size l fuel pp0 id ([] : List Pos) (0 : Int)))
  (br (decide (id < (0 : Int)))
  (ob (Zy true) fun wrong2 =>
  ob (Zs [buffer1, wrong2]) fun first2 =>
  br (first2 != (0 : Int))
  (some (([] : List PutPacked), first2))
  (build_PackedL3 size l fuel pp0 id ([] : List Pos) (0 : Int)))
  (br (decide (id ≥ size))
  (ob (Zy true) fun wrong3 =>
  ob (Zs [buffer1, wrong3]) fun first3 =>
  br (first3 != (0 : Int))
  (some (([] : List PutPacked), first3))
  (build_PackedL5 size l fuel pp0 id ([] : List Pos) (0 : Int)))
  (ob (Zy (decide ((len l) > size))) fun wrong4 =>
  ob (Zs [buffer1, wrong4]) fun first4 =>
  br (first4 != (0 : Int))
  (some (([] : List PutPacked), first4))
  (YJ size l fuel pp0 id ([] : List Pos) (0 : Int)))))

def KE (dp0 : Packed) : Option (List UInt8) :=
  ob (XD (List.replicate 16 0) (0 : Int) (8 : Int) dp0.Addr) fun put1 =>
  ob (XD put1 (8 : Int) (4 : Int) dp0.Len.toUInt64) fun put2 =>
  ob (XD put2 (12 : Int) (2 : Int) dp0.ID.toUInt64) fun put3 =>
  ob (XD put3 (14 : Int) (2 : Int) dp0.Flags.toUInt64) fun put4 =>
  chk (put4.length == 16) <|
  some put4

def Zz (x1 : Int) (L1 : (List UInt8) → Int → Option ((List UInt8) × Int)) (l1 : List UInt8) (m1 : Packed) : Option ((List UInt8) × Int) :=
  ob (KE m1) fun packed1 =>
  chk (fits l1.length packed1.length 1) <|
  L1 (l1 ++ packed1) (wi (x1 + (1 : Int)))

def Ye (l : List Seg) (L1 : (List UInt8) → Int → Option ((List UInt8) × Int)) (b1 : List UInt8) (x1 : Int) : Option ((List UInt8) × Int) :=
  br (decide (x1 < (len l)))
  (ob (ix l x1) fun s1 =>
  br (s1.Write)
  (Zz x1 L1 b1 (Packed.mk s1.At s1.Len (0 : UInt16) (2 : UInt16)))
  (Zz x1 L1 b1 (Packed.mk s1.At s1.Len (0 : UInt16) (0 : UInt16))))
  (some (b1, (0 : Int)))

def Zm (l : List Seg) : Nat → (List UInt8) → Int → Option ((List UInt8) × Int)
  | 0, _, _ => none
  | nf + 1, b1, x1 => Ye l (Zm l nf) b1 x1

def Yk (l : List Seg) : Option ((List UInt8) × Int) :=
  ob (Yq l) fun buffer1 =>
  ob (Zs [buffer1]) fun first1 =>
  br (first1 != (0 : Int))
  (some (([] : List UInt8), first1))
  (Zm l fuel [] (0 : Int))

def build_many (np0 : Int) : Option Bool :=
  br (decide (np0 ≥ (1 : Int)))
  (some (decide (np0 ≤ (64 : Int))))
  (some false)

def Kx (id : Int) (atp1 : UInt64) (np2 : Int) : Option (Put × Int) :=
  ob (build_isID id) fun isid1 =>
  br ((!isid1))
  (ob (Zy true) fun wrong1 =>
  ob (Zs [wrong1]) fun first1 =>
  br (first1 != (0 : Int))
  (some ((Put.mk (0 : Int) (Desc.mk (0 : UInt64) (0 : UInt32) (0 : UInt16) (0 : UInt16))), first1))
  (some ((Put.mk id (Desc.mk atp1 (u32 (wi ((16 : Int) * np2))) (4 : UInt16) (0 : UInt16))), (0 : Int))))
  (ob (build_many np2) fun many1 =>
  ob (Zy (!many1)) fun wrong2 =>
  ob (Zs [wrong2]) fun first2 =>
  br (first2 != (0 : Int))
  (some ((Put.mk (0 : Int) (Desc.mk (0 : UInt64) (0 : UInt32) (0 : UInt16) (0 : UInt16))), first2))
  (some ((Put.mk id (Desc.mk atp1 (u32 (wi ((16 : Int) * np2))) (4 : UInt16) (0 : UInt16))), (0 : Int))))

def YY (pp0 : Pos) (size : Int) (id : Int) (atp3 : UInt64) (np4 : Int) : Option (PutPacked × Int) :=
  ob (Yo pp0 size) fun check1 =>
  br (check1 != (0 : Int))
  (ob (Zy true) fun wrong1 =>
  ob (Zs [wrong1]) fun first1 =>
  br (first1 != (0 : Int))
  (some ((PutPacked.mk (0 : Int) (Packed.mk (0 : UInt64) (0 : UInt32) (0 : UInt16) (0 : UInt16))), first1))
  (ob (Kw (4 : UInt16) pp0.Wrap false) fun mark1 =>
  some ((PutPacked.mk pp0.At (Packed.mk atp3 (u32 (wi ((16 : Int) * np4))) (u16 id) mark1)), (0 : Int))))
  (br (decide (id < (0 : Int)))
  (ob (Zy true) fun wrong2 =>
  ob (Zs [wrong2]) fun first2 =>
  br (first2 != (0 : Int))
  (some ((PutPacked.mk (0 : Int) (Packed.mk (0 : UInt64) (0 : UInt32) (0 : UInt16) (0 : UInt16))), first2))
  (ob (Kw (4 : UInt16) pp0.Wrap false) fun mark2 =>
  some ((PutPacked.mk pp0.At (Packed.mk atp3 (u32 (wi ((16 : Int) * np4))) (u16 id) mark2)), (0 : Int))))
  (br (decide (id ≥ size))
  (ob (Zy true) fun wrong3 =>
  ob (Zs [wrong3]) fun first3 =>
  br (first3 != (0 : Int))
  (some ((PutPacked.mk (0 : Int) (Packed.mk (0 : UInt64) (0 : UInt32) (0 : UInt16) (0 : UInt16))), first3))
  (ob (Kw (4 : UInt16) pp0.Wrap false) fun mark3 =>
  some ((PutPacked.mk pp0.At (Packed.mk atp3 (u32 (wi ((16 : Int) * np4))) (u16 id) mark3)), (0 : Int))))
  (ob (build_many np4) fun many1 =>
  ob (Zy (!many1)) fun wrong4 =>
  ob (Zs [wrong4]) fun first4 =>
  br (first4 != (0 : Int))
  (some ((PutPacked.mk (0 : Int) (Packed.mk (0 : UInt64) (0 : UInt32) (0 : UInt16) (0 : UInt16))), first4))
  (ob (Kw (4 : UInt16) pp0.Wrap false) fun mark4 =>
  some ((PutPacked.mk pp0.At (Packed.mk atp3 (u32 (wi ((16 : Int) * np4))) (u16 id) mark4)), (0 : Int))))))

def XI (l : List Seg) (mem2 : gmem_Mem) (pick3 : Int) (L4 : Rings → (List (List UInt8)) → Pos → (List PutPacked) → Int → Option Bool) (m3 : Rings) (rows2 : List (List UInt8)) (m4 : Pos) (l3 : List PutPacked) (i4 : Int) : Option Bool :=
  br (decide (i4 < (len l3)))
  (ob (ix l3 i4) fun p11 =>
  ob (ix l3 i4) fun p12 =>
  ob (Xc p12.Desc) fun packed2 =>
  ob (Zq (gmem_Mem.mk mem2.l rows2) (m3.Desc + ((16 : UInt64) * (u64 p11.At))) packed2) fun write4 =>
  L4 m3 write4.2 m4 l3 (wi (i4 + (1 : Int))))
  (ob (YR (gmem_Mem.mk mem2.l rows2) m3 m4 false) fun packed3 =>
  ob (Yk l) fun packed4 =>
  ob (YY m4 (64 : Int) pick3 (2800 : UInt64) (len l)) fun packed5 =>
  ob (Zq (gmem_Mem.mk mem2.l rows2) (2800 : UInt64) packed4.1) fun write5 =>
  ob (Xc packed5.1.Desc) fun packed6 =>
  ob (Zq (gmem_Mem.mk mem2.l write5.2) (m3.Desc + ((16 : UInt64) * (u64 packed5.1.At))) packed6) fun write6 =>
  ob (YR (gmem_Mem.mk mem2.l write6.2) m3 m4 true) fun packed7 =>
  ob (YR (gmem_Mem.mk mem2.l write6.2) m3 m4 false) fun packed8 =>
  chk (packed3.2 == (0 : Int)) <|
  chk (packed7.2 == (0 : Int)) <|
  chk (packed8.2 == (4 : Int)) <|
  ob (Jd packed3.1 (Taken.mk pick3 (len l) l)) fun taken1 =>
  chk (taken1) <|
  ob (Jd packed7.1 (Taken.mk pick3 (1 : Int) l)) fun taken2 =>
  chk (taken2) <|
  some true)

def ZT (l : List Seg) (mem2 : gmem_Mem) (pick3 : Int) : Nat → Rings → (List (List UInt8)) → Pos → (List PutPacked) → Int → Option Bool
  | 0, _, _, _, _, _ => none
  | nf + 1, m3, rows2, m4, l3, i4 => XI l mem2 pick3 (ZT l mem2 pick3 nf) m3 rows2 m4 l3 i4

def XJ (l : List Seg) (id : Int) (atp3 : Int) (wrap : Bool) (mem1 : gmem_Mem) (L3 : Rings → (List (List UInt8)) → (List Int) → (List Put) → Int → Option Bool) (m2 : Rings) (rows1 : List (List UInt8)) (l1 : List Int) (l2 : List Put) (i3 : Int) : Option Bool :=
  br (decide (i3 < (len l2)))
  (ob (ix l2 i3) fun p9 =>
  ob (ix l2 i3) fun p10 =>
  ob (XX p10.Desc) fun bytes1 =>
  ob (Zq (gmem_Mem.mk mem1.l rows1) (m2.Desc + ((16 : UInt64) * (u64 p9.At))) bytes1) fun write1 =>
  L3 m2 write1.2 l1 l2 (wi (i3 + (1 : Int))))
  (ob (ix l1 (0 : Int)) fun y1 =>
  ob (Yf (gmem_Mem.mk mem1.l rows1) m2 y1 false) fun split2 =>
  ob (YD l) fun splitt1 =>
  ob (ix l1 (0 : Int)) fun y2 =>
  ob (Kx y2 (2800 : UInt64) (len l)) fun splito1 =>
  ob (Zq (gmem_Mem.mk mem1.l rows1) (2800 : UInt64) splitt1.1) fun write2 =>
  ob (XX splito1.1.Desc) fun bytes2 =>
  ob (Zq (gmem_Mem.mk mem1.l write2.2) (m2.Desc + ((16 : UInt64) * (u64 splito1.1.At))) bytes2) fun write3 =>
  ob (ix l1 (0 : Int)) fun y3 =>
  ob (Yf (gmem_Mem.mk mem1.l write3.2) m2 y3 true) fun split3 =>
  ob (ix l1 (0 : Int)) fun y4 =>
  ob (Yf (gmem_Mem.mk mem1.l write3.2) m2 y4 false) fun split4 =>
  chk (!(split2.2 != (0 : Int))) <|
  ob (Yp split2.1 l) fun samese1 =>
  chk (!((!samese1))) <|
  chk (!(split3.2 != (0 : Int))) <|
  ob (Yp split3.1 l) fun samese2 =>
  chk (!((!samese2))) <|
  chk (!(split4.2 != (4 : Int))) <|
  ob (ix l1 (0 : Int)) fun y5 =>
  ob (walk_Reads (gmem_Mem.mk mem1.l write3.2) m2 y5 true) fun reads1 =>
  chk (!(reads1 != (wi ((1 : Int) + (len l))))) <|
  ob (KM (64 : Int) true ([] : List dumbwaiterlaw10_Spot)) fun laid2 =>
  onO laid2.1
  (none)
  (fun mem2 =>
  ob (KB atp3 (64 : Int)) fun pick2 =>
  ob (KB id (64 : Int)) fun pick3 =>
  ob (build_Packed (Pos.mk pick2 wrap) (64 : Int) pick3 l) fun packed1 =>
  chk (!((!laid2.2.2.2))) <|
  chk (!(packed1.2 != (0 : Int))) <|
  ZT l mem2 pick3 fuel laid2.2.2.1 mem2.b (Pos.mk pick2 wrap) packed1.1 (0 : Int)))

def ZU (l : List Seg) (id : Int) (atp3 : Int) (wrap : Bool) (mem1 : gmem_Mem) : Nat → Rings → (List (List UInt8)) → (List Int) → (List Put) → Int → Option Bool
  | 0, _, _, _, _, _ => none
  | nf + 1, m2, rows1, l1, l2, i3 => XJ l id atp3 wrap mem1 (ZU l id atp3 wrap mem1 nf) m2 rows1 l1 l2 i3

def Kf (l : List Seg) (first : Int) (id : Int) (atp3 : Int) (wrap : Bool) (mem1 : gmem_Mem) (L2 : Rings → (List Int) → Int → Option Bool) (m1 : Rings) (ids1 : List Int) (i2 : Int) : Option Bool :=
  br (decide (i2 < (len l)))
  (ob (KB first (64 : Int)) fun pick1 =>
  chk (fits ids1.length [remi (wi (pick1 + (wi (i2 * (11 : Int))))) (64 : Int)].length 8) <|
  L2 m1 (ids1 ++ [remi (wi (pick1 + (wi (i2 * (11 : Int))))) (64 : Int)]) (wi (i2 + (1 : Int))))
  (ob (build_Split ids1 l) fun split1 =>
  ZU l id atp3 wrap mem1 fuel m1 mem1.b ids1 split1.1 (0 : Int))

def XQ (l : List Seg) (first : Int) (id : Int) (atp3 : Int) (wrap : Bool) (mem1 : gmem_Mem) : Nat → Rings → (List Int) → Int → Option Bool
  | 0, _, _, _ => none
  | nf + 1, m1, ids1, i2 => Kf l first id atp3 wrap mem1 (XQ l first id atp3 wrap mem1 nf) m1 ids1 i2

def Kg (l : List Seg) (first : Int) (id : Int) (atp3 : Int) (wrap : Bool) (L1 : Int → Option Bool) (i1 : Int) : Option Bool :=
  br (decide (i1 < (len l)))
  (ob (ix l i1) fun s1 =>
  br (decide (s1.At < (4000 : UInt64)))
  (some true)
  (ob (ix l i1) fun s2 =>
  br (decide (s2.At > (12000 : UInt64)))
  (some true)
  (ob (ix l i1) fun s3 =>
  ob (ix l i1) fun s4 =>
  br (decide ((s3.At + s4.Len.toUInt64) > (12000 : UInt64)))
  (some true)
  (L1 (wi (i1 + (1 : Int)))))))
  (ob (KM (64 : Int) false ([] : List dumbwaiterlaw10_Spot)) fun laid1 =>
  onO laid1.1
  (none)
  (fun mem1 =>
  chk (!((!laid1.2.2.2))) <|
  XQ l first id atp3 wrap mem1 fuel laid1.2.2.1 [] (0 : Int)))

def XR (l : List Seg) (first : Int) (id : Int) (atp3 : Int) (wrap : Bool) : Nat → Int → Option Bool
  | 0, _ => none
  | nf + 1, i1 => Kg l first id atp3 wrap (XR l first id atp3 wrap nf) i1

def law10zWalkBack (l : List Seg) (first : Int) (id : Int) (atp3 : Int) (wrap : Bool) : Option Bool :=
  ob (law10zlives) fun lives1 =>
  chk (!((!lives1))) <|
  br (decide ((len l) > (100 : Int)))
  (some true)
  (ob (build_Needs l true) fun needs1 =>
  br (needs1 == (0 : Int))
  (some true)
  (XR l first id atp3 wrap fuel (0 : Int)))
end Go.Proofs.Ytlofegfaphijpaa
