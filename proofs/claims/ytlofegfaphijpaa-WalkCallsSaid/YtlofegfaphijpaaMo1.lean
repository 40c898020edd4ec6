/- What the functions reckon, as plain words. No statement of the seat is proved here; no condition. -/
import Derived.Test.YtlofegfaphijpaaTy
namespace Go.Proofs.Ytlofegfaphijpaa

def ref_Power01L1B (np0 : Int) (L1 : Int → Option Bool) (k1 : Int) : Option Bool :=
  br (decide (k1 ≤ (32768 : Int)))
  (br (k1 == np0)
  (some true)
  (L1 (wi ((2 : Int) * k1))))
  (some false)

def ref_Power01L1 (np0 : Int) : Nat → Int → Option Bool
  | 0, _ => none
  | nf + 1, k1 => ref_Power01L1B np0 (ref_Power01L1 np0 nf) k1

def ref_Power01 (np0 : Int) : Option Bool :=
  ref_Power01L1 np0 fuel (1 : Int)

def ref_size04 (packed : Bool) (np1 : Int) : Option Bool :=
  br (decide (np1 ≥ (1 : Int)))
  (br (decide (np1 ≤ (32768 : Int)))
  (br (packed)
  (some true)
  (ob (ref_Power01 np1) fun power1 =>
  some power1))
  (some false))
  (some false)

def ref_Parts04 (rp0 : Rings) : Option (UInt64 × UInt64 × UInt64) :=
  ob (ref_size04 rp0.Packed rp0.Size) fun size1 =>
  br ((!size1))
  (some ((0 : UInt64), (0 : UInt64), (0 : UInt64)))
  (br (rp0.Packed)
  (some ((16 : UInt64) * (u64 rp0.Size), (4 : UInt64), (4 : UInt64)))
  (some ((16 : UInt64) * (u64 rp0.Size), (6 : UInt64) + ((2 : UInt64) * (u64 rp0.Size)), (6 : UInt64) + ((8 : UInt64) * (u64 rp0.Size)))))

def ref_Align01 (np0 : UInt64) (top1 : UInt64) : Option (UInt64 × Int) :=
  br (top1 == (0 : UInt64))
  (some ((0 : UInt64), (2 : Int)))
  (br ((top1 &&& (top1 - (1 : UInt64))) != (0 : UInt64))
  (some ((0 : UInt64), (2 : Int)))
  (chk (!(top1 == 0)) <|
  br ((np0 % top1) == (0 : UInt64))
  (some (np0, (0 : Int)))
  (chk (!(top1 == 0)) <|
  br (decide (((np0 - (np0 % top1)) + top1) < np0))
  (some ((0 : UInt64), (2 : Int)))
  (some ((np0 - (np0 % top1)) + top1, (0 : Int))))))

def ref_common04 (ap0 : UInt64) (np1 : UInt64) (b : UInt64) (m : UInt64) : Option Bool :=
  br (decide (np1 > (0 : UInt64)))
  (br (decide (m > (0 : UInt64)))
  (br (decide (ap0 ≤ b))
  (br (decide ((b - ap0) < np1))
  (some true)
  (br (decide (b < ap0))
  (some (decide ((ap0 - b) < m)))
  (some false)))
  (br (decide (b < ap0))
  (some (decide ((ap0 - b) < m)))
  (some false)))
  (some false))
  (some false)

def ref_Check04L3B (l1 : List UInt64) (l2 : List UInt64) (i1 : Int) (L2 : Int → Option Int) (L3 : Int → Option Int) (k1 : Int) : Option Int :=
  br (decide (k1 < i1))
  (ob (ix l1 i1) fun y6 =>
  ob (ix l2 i1) fun y7 =>
  ob (ix l1 k1) fun y8 =>
  ob (ix l2 k1) fun y9 =>
  ob (ref_common04 y6 y7 y8 y9) fun common1 =>
  br (common1)
  (some (2 : Int))
  (L3 (wi (k1 + (1 : Int)))))
  (L2 (wi (i1 + (1 : Int))))

def ref_Check04L3 (l1 : List UInt64) (l2 : List UInt64) (i1 : Int) (L2 : Int → Option Int) : Nat → Int → Option Int
  | 0, _ => none
  | nf + 1, k1 => ref_Check04L3B l1 l2 i1 L2 (ref_Check04L3 l1 l2 i1 L2 nf) k1

def ref_Check04L2B (l1 : List UInt64) (l2 : List UInt64) (l3 : List UInt64) (L2 : Int → Option Int) (i1 : Int) : Option Int :=
  br (decide (i1 < (3 : Int)))
  (ob (ix l1 i1) fun y1 =>
  ob (ix l3 i1) fun y2 =>
  chk (!(y2 == 0)) <|
  br ((y1 % y2) != (0 : UInt64))
  (some (2 : Int))
  (ob (ix l1 i1) fun y3 =>
  ob (ix l2 i1) fun y4 =>
  ob (ix l1 i1) fun y5 =>
  br (decide ((y3 + (y4 - (1 : UInt64))) < y5))
  (some (2 : Int))
  (ref_Check04L3 l1 l2 i1 L2 fuel (0 : Int))))
  (some (0 : Int))

def XZ (l1 : List UInt64) (l2 : List UInt64) (l3 : List UInt64) : Nat → Int → Option Int
  | 0, _ => none
  | nf + 1, i1 => ref_Check04L2B l1 l2 l3 (XZ l1 l2 l3 nf) i1

def Kq  (l1 : List UInt64) (l2 : List UInt64) (l3 : List UInt64) : Option Int :=
  XZ l1 l2 l3 fuel (0 : Int)

def ref_Check04 (rp0 : Rings) : Option Int :=
  ob (ref_Parts04 rp0) fun parts1 =>
  br (parts1.1 == (0 : UInt64))
  (some (2 : Int))
  (br (rp0.Packed)
  (ob (ix [(16 : UInt64), (2 : UInt64), (4 : UInt64)] (1 : Int)) fun y10 =>
  Kq [rp0.Desc, rp0.Driver, rp0.Device] [parts1.1, parts1.2.1, parts1.2.2] ([(16 : UInt64), (2 : UInt64), (4 : UInt64)].set (1 : Int).toNat (4 : UInt64)))
  (Kq [rp0.Desc, rp0.Driver, rp0.Device] [parts1.1, parts1.2.1, parts1.2.2] [(16 : UInt64), (2 : UInt64), (4 : UInt64)]))

def Kp (packed : Bool) (np1 : Int) (base : UInt64) (parts1 : (UInt64 × UInt64 × UInt64)) (to1 : UInt64) : Option (Rings × UInt64 × Int) :=
  ob (ref_Align01 base (16 : UInt64)) fun align1 =>
  ob (ref_Align01 (align1.1 + parts1.1) to1) fun align2 =>
  ob (ref_Align01 (align2.1 + parts1.2.1) (4 : UInt64)) fun align3 =>
  br (align1.2 != (0 : Int))
  (some ((Rings.mk false (0 : Int) (0 : UInt64) (0 : UInt64) (0 : UInt64)), (0 : UInt64), (2 : Int)))
  (br (align2.2 != (0 : Int))
  (some ((Rings.mk false (0 : Int) (0 : UInt64) (0 : UInt64) (0 : UInt64)), (0 : UInt64), (2 : Int)))
  (br (align3.2 != (0 : Int))
  (some ((Rings.mk false (0 : Int) (0 : UInt64) (0 : UInt64) (0 : UInt64)), (0 : UInt64), (2 : Int)))
  (br (decide ((align1.1 + parts1.1) < align1.1))
  (some ((Rings.mk false (0 : Int) (0 : UInt64) (0 : UInt64) (0 : UInt64)), (0 : UInt64), (2 : Int)))
  (br (decide ((align2.1 + parts1.2.1) < align2.1))
  (some ((Rings.mk false (0 : Int) (0 : UInt64) (0 : UInt64) (0 : UInt64)), (0 : UInt64), (2 : Int)))
  (br (decide ((align3.1 + (parts1.2.2 - (1 : UInt64))) < align3.1))
  (some ((Rings.mk false (0 : Int) (0 : UInt64) (0 : UInt64) (0 : UInt64)), (0 : UInt64), (2 : Int)))
  (ob (ref_Check04 (Rings.mk packed np1 align1.1 align2.1 align3.1)) fun check1 =>
  br (check1 != (0 : Int))
  (some ((Rings.mk false (0 : Int) (0 : UInt64) (0 : UInt64) (0 : UInt64)), (0 : UInt64), (2 : Int)))
  (some ((Rings.mk packed np1 align1.1 align2.1 align3.1), (align3.1 + parts1.2.2) - base, (0 : Int)))))))))

def Kc (packed : Bool) (np1 : Int) (base : UInt64) : Option (Rings × UInt64 × Int) :=
  ob (ref_Parts04 (Rings.mk packed np1 (0 : UInt64) (0 : UInt64) (0 : UInt64))) fun parts1 =>
  br (parts1.1 == (0 : UInt64))
  (some ((Rings.mk false (0 : Int) (0 : UInt64) (0 : UInt64) (0 : UInt64)), (0 : UInt64), (2 : Int)))
  (br (packed)
  (Kp packed np1 base parts1 (4 : UInt64))
  (Kp packed np1 base parts1 (2 : UInt64)))

def gmem_CheckL1B (l : List Region) (L1 : UInt64 → Int → Option Int) (room1 : UInt64) (x1 : Int) : Option Int :=
  br (decide (x1 < (len l)))
  (ob (ix l x1) fun r1 =>
  br (decide (r1.Len < (1 : UInt64)))
  (some (2 : Int))
  (br (decide (r1.Len > room1))
  (some (2 : Int))
  (br (decide ((r1.Len - (1 : UInt64)) > ((18446744073709551615 : UInt64) - r1.At)))
  (some (2 : Int))
  (br (decide (x1 > (0 : Int)))
  (ob (ix l (wi (x1 - (1 : Int)))) fun r2 =>
  br (decide (r1.At ≤ r2.At))
  (some (2 : Int))
  (br (decide ((r1.At - r2.At) < r2.Len))
  (some (2 : Int))
  (L1 (room1 - r1.Len) (wi (x1 + (1 : Int))))))
  (L1 (room1 - r1.Len) (wi (x1 + (1 : Int))))))))
  (some (0 : Int))

def Kh (l : List Region) : Nat → UInt64 → Int → Option Int
  | 0, _, _ => none
  | nf + 1, room1, x1 => gmem_CheckL1B l (Kh l nf) room1 x1

def gmem_Check (l : List Region) : Option Int :=
  br (decide ((len l) > (16 : Int)))
  (some (2 : Int))
  (Kh l fuel (1048576 : UInt64) (0 : Int))

def Zh (sp0 : List Region) : Option (List Region) :=
  chk (fits ([] : List Region).length sp0.length 16) <|
  some sp0

def gmem_NewL1B (l : List Region) (region1 : (List Region)) (L1 : (List (List UInt8)) → Int → Option ((Option gmem_Mem) × Int)) (rows1 : List (List UInt8)) (x1 : Int) : Option ((Option gmem_Mem) × Int) :=
  br (decide (x1 < (len l)))
  (ob (ix l x1) fun r1 =>
  chk (decide (0 ≤ (r1.Len.toNat : Int) ∧ (r1.Len.toNat : Int) ≤ (r1.Len.toNat : Int) ∧ (1 : Int) * (r1.Len.toNat : Int) ≤ 140737488355328)) <|
  ob (ix rows1 x1) fun row1 =>
  L1 (rows1.set (Int.toNat x1) (List.replicate (Int.toNat (r1.Len.toNat : Int)) (0 : UInt8))) (wi (x1 + (1 : Int))))
  (some ((some (gmem_Mem.mk region1 rows1)), (0 : Int)))

def gmem_NewL1 (l : List Region) (region1 : (List Region)) : Nat → (List (List UInt8)) → Int → Option ((Option gmem_Mem) × Int)
  | 0, _, _ => none
  | nf + 1, rows1, x1 => gmem_NewL1B l region1 (gmem_NewL1 l region1 nf) rows1 x1

def gmem_New (l : List Region) : Option ((Option gmem_Mem) × Int) :=
  ob (gmem_Check l) fun check1 =>
  br (check1 != (0 : Int))
  (some ((none : Option gmem_Mem), check1))
  (ob (Zh l) fun region1 =>
  chk (decide (0 ≤ (len l) ∧ (len l) ≤ (wi ((len l) + (1 : Int))) ∧ (24 : Int) * (wi ((len l) + (1 : Int))) ≤ 140737488355328)) <|
  gmem_NewL1 l region1 fuel (List.replicate (Int.toNat (len l)) [] : List (List UInt8)) (0 : Int))

def ref_put03L1B (vp1 : UInt64) (np2 : Int) (L1 : (List UInt8) → Int → Option (List UInt8)) (b1 : List UInt8) (i1 : Int) : Option (List UInt8) :=
  br (decide (i1 < np2))
  (chk (fits b1.length [(shr64 vp1 ((u64 (wi ((8 : Int) * i1))).toNat)).toUInt8].length 1) <|
  L1 (b1 ++ [(shr64 vp1 ((u64 (wi ((8 : Int) * i1))).toNat)).toUInt8]) (wi (i1 + (1 : Int))))
  (some b1)

def ref_put03L1 (vp1 : UInt64) (np2 : Int) : Nat → (List UInt8) → Int → Option (List UInt8)
  | 0, _, _ => none
  | nf + 1, b1, i1 => ref_put03L1B vp1 np2 (ref_put03L1 vp1 np2 nf) b1 i1

def YR (b : List UInt8) (vp1 : UInt64) (np2 : Int) : Option (List UInt8) :=
  ref_put03L1 vp1 np2 fuel b (0 : Int)

def Kd (dp0 : Desc) : Option (List UInt8) :=
  ob (YR ([] : List UInt8) dp0.Addr (8 : Int)) fun put1 =>
  ob (YR put1 dp0.Len.toUInt64 (4 : Int)) fun put2 =>
  ob (YR put2 dp0.Flags.toUInt64 (2 : Int)) fun put3 =>
  ob (YR put3 dp0.Next.toUInt64 (2 : Int)) fun put4 =>
  some put4

def XG (m : gmem_Mem) : Option Bool :=
  some true

def Yf (ip0 : Int) (arg1 : gmem_Mem) (arg2 : UInt64) : Option Bool :=
  ob (ix arg1.l ip0) fun r1 =>
  ob (ix arg1.l ip0) fun r2 =>
  some (decide (((r1.Len - (1 : UInt64)) + r2.At) ≥ arg2))

def ZE (fc0 : gmem_Mem) (fc1 : UInt64) (L1 : Int → Int → Option Int) (i1 : Int) (j1 : Int) : Option Int :=
  br (decide (i1 < j1))
  (ob (Yf (i64 (shr64 (u64 (wi (i1 + j1))) ((1 : UInt64).toNat))) fc0 fc1) fun bytes1 =>
  br ((!bytes1))
  (L1 (wi ((i64 (shr64 (u64 (wi (i1 + j1))) ((1 : UInt64).toNat))) + (1 : Int))) j1)
  (L1 i1 (i64 (shr64 (u64 (wi (i1 + j1))) ((1 : UInt64).toNat)))))
  (some i1)

def Zj (fc0 : gmem_Mem) (fc1 : UInt64) : Nat → Int → Int → Option Int
  | 0, _, _ => none
  | nf + 1, i1, j1 => ZE fc0 fc1 (Zj fc0 fc1 nf) i1 j1

def Zt (np0 : Int) (fc0 : gmem_Mem) (fc1 : UInt64) : Option Int :=
  Zj fc0 fc1 fuel (0 : Int) np0

def XL (m : gmem_Mem) (atp1 : UInt64) (np2 : UInt64) : Option (Option (Int × Int × Int)) :=
  br (decide (np2 < (1 : UInt64)))
  (some (none : Option (Int × Int × Int)))
  (ob (Zt (len m.l) m atp1) fun search1 =>
  br (search1 == (len m.l))
  (some (none : Option (Int × Int × Int)))
  (ob (ix m.l search1) fun r1 =>
  br (decide (atp1 < r1.At))
  (some (none : Option (Int × Int × Int)))
  (ob (ix m.l search1) fun r2 =>
  ob (ix m.l search1) fun r3 =>
  br (decide (np2 > (r3.Len - (atp1 - r2.At))))
  (some (none : Option (Int × Int × Int)))
  (ob (ix m.b search1) fun row1 =>
  chk (decide (0 ≤ ((atp1 - r2.At).toNat : Int) ∧ ((atp1 - r2.At).toNat : Int) ≤ (((atp1 - r2.At) + np2).toNat : Int) ∧ (((atp1 - r2.At) + np2).toNat : Int) ≤ len row1)) <|
  some (some (search1, ((atp1 - r2.At).toNat : Int), (((atp1 - r2.At) + np2).toNat : Int)))))))

def ZZ (m : gmem_Mem) (atp1 : UInt64) (arg2 : List UInt8) : Option (Int × (List (List UInt8))) :=
  ob (XG m) fun made1 =>
  br ((len arg2) == (0 : Int))
  (some ((0 : Int), m.b))
  (ob (XL m atp1 (u64 (len arg2))) fun bytes1 =>
  onO bytes1
  (some ((5 : Int), m.b))
  (fun w1 =>
  ob (ix m.b w1.1) fun row1 =>
  chk (decide (0 ≤ w1.2.1 ∧ w1.2.1 ≤ w1.2.2 ∧ w1.2.2 ≤ len row1)) <|
  chk (decide (w1.2.1 < w1.2.2)) <|
  some ((0 : Int), m.b.set (Int.toNat w1.1) (copyAt row1 w1.2.1 w1.2.2 arg2))))

def Xb (sp0 : List UInt8) : Option (List UInt8) :=
  chk (fits ([] : List UInt8).length sp0.length 1) <|
  some sp0

def ZL (m : gmem_Mem) (atp1 : UInt64) (np2 : Int) : Option ((List UInt8) × Int) :=
  ob (XG m) fun made1 =>
  br (decide (np2 < (0 : Int)))
  (some (([] : List UInt8), (2 : Int)))
  (br (np2 == (0 : Int))
  (some (([] : List UInt8), (0 : Int)))
  (ob (XL m atp1 (u64 np2)) fun bytes1 =>
  onO bytes1
  (some (([] : List UInt8), (5 : Int)))
  (fun w1 =>
  ob (ix m.b w1.1) fun row1 =>
  chk (decide (0 ≤ w1.2.1 ∧ w1.2.1 ≤ w1.2.2 ∧ w1.2.2 ≤ len row1)) <|
  chk (decide (w1.2.1 < w1.2.2)) <|
  ob (Xb (sub row1 w1.2.1 w1.2.2)) fun cloneb1 =>
  some (cloneb1, (0 : Int)))))

def YC (np0 : Int) : Option Bool :=
  br (decide (np0 ≥ (1 : Int)))
  (some (decide (np0 ≤ (32768 : Int))))
  (some false)

def serial_Power (np0 : Int) : Option Bool :=
  ob (YC np0) fun issize1 =>
  br (issize1)
  (some ((andi np0 (wi (np0 - (1 : Int)))) == (0 : Int)))
  (some false)

def layout_isSize (rp0 : Rings) : Option Bool :=
  br (rp0.Packed)
  (br (decide (rp0.Size ≥ (1 : Int)))
  (some (decide (rp0.Size ≤ (32768 : Int))))
  (some false))
  (ob (serial_Power rp0.Size) fun power1 =>
  some power1)

def layout_Parts (rp0 : Rings) : Option (UInt64 × UInt64 × UInt64) :=
  ob (layout_isSize rp0) fun issize1 =>
  br ((!issize1))
  (some ((0 : UInt64), (0 : UInt64), (0 : UInt64)))
  (br (rp0.Packed)
  (some ((16 : UInt64) * (u64 rp0.Size), (4 : UInt64), (4 : UInt64)))
  (some ((16 : UInt64) * (u64 rp0.Size), (6 : UInt64) + ((2 : UInt64) * (u64 rp0.Size)), (6 : UInt64) + ((8 : UInt64) * (u64 rp0.Size)))))

def layout_spans (rp0 : Rings) : Option (A3 (A2 UInt64)) :=
  ob (layout_Parts rp0) fun parts1 =>
  some (A3.mk (A2.mk rp0.Desc parts1.1) (A2.mk rp0.Driver parts1.2.1) (A2.mk rp0.Device parts1.2.2))

def layout_steps (rp0 : Rings) : Option (A3 UInt64) :=
  br (rp0.Packed)
  (some (A3.mk (16 : UInt64) (4 : UInt64) (4 : UInt64)))
  (some (A3.mk (16 : UInt64) (2 : UInt64) (4 : UInt64)))

def Ku (atp0 : UInt64) (np1 : UInt64) : Option Bool :=
  br (decide (np1 > (0 : UInt64)))
  (some (decide ((np1 - (1 : UInt64)) > ((18446744073709551615 : UInt64) - atp0))))
  (some false)

def Kt (atp0 : UInt64) (np1 : UInt64) (top2 : UInt64) (m : UInt64) : Option Bool :=
  br (decide (atp0 ≤ top2))
  (some (decide ((top2 - atp0) < np1)))
  (some (decide ((atp0 - top2) < m)))

def layout_Check (rp0 : Rings) : Option Int :=
  ob (layout_isSize rp0) fun issize1 =>
  br ((!issize1))
  (some (2 : Int))
  (ob (layout_spans rp0) fun spans1 =>
  ob (layout_steps rp0) fun steps1 =>
  chk (!(steps1.a0 == 0)) <|
  br ((spans1.a0.a0 % steps1.a0) != (0 : UInt64))
  (some (2 : Int))
  (ob (Ku spans1.a0.a0 spans1.a0.a1) fun beyond1 =>
  br (beyond1)
  (some (2 : Int))
  (chk (!(steps1.a1 == 0)) <|
  br ((spans1.a1.a0 % steps1.a1) != (0 : UInt64))
  (some (2 : Int))
  (ob (Ku spans1.a1.a0 spans1.a1.a1) fun beyond2 =>
  br (beyond2)
  (some (2 : Int))
  (ob (Kt spans1.a1.a0 spans1.a1.a1 spans1.a0.a0 spans1.a0.a1) fun common1 =>
  br (common1)
  (some (2 : Int))
  (chk (!(steps1.a2 == 0)) <|
  br ((spans1.a2.a0 % steps1.a2) != (0 : UInt64))
  (some (2 : Int))
  (ob (Ku spans1.a2.a0 spans1.a2.a1) fun beyond3 =>
  br (beyond3)
  (some (2 : Int))
  (ob (Kt spans1.a2.a0 spans1.a2.a1 spans1.a0.a0 spans1.a0.a1) fun common2 =>
  br (common2)
  (some (2 : Int))
  (ob (Kt spans1.a2.a0 spans1.a2.a1 spans1.a1.a0 spans1.a1.a1) fun common3 =>
  br (common3)
  (some (2 : Int))
  (some (0 : Int)))))))))))

def YZ (m : gmem_Mem) (rp1 : Rings) (packed : Bool) : Option Int :=
  ob (ZL m (0 : UInt64) (0 : Int)) fun Xe =>
  br (Xe.2 != (0 : Int))
  (some Xe.2)
  (ob (layout_Check rp1) fun check1 =>
  br (check1 != (0 : Int))
  (some check1)
  (br (rp1.Packed != packed)
  (some (2 : Int))
  (some (0 : Int))))

def desc_raw_getL1B (rp0 : List UInt8) (atp1 : Int) (np2 : Int) (L1 : UInt64 → Int → Option UInt64) (v1 : UInt64) (x1 : Int) : Option UInt64 :=
  br (decide (x1 < np2))
  (chk (decide (0 ≤ (wi (atp1 + x1)) ∧ (wi (atp1 + x1)) < (16 : Int))) <|
  ob (ix rp0 (wi (atp1 + x1))) fun u1 =>
  chk (decide (0 ≤ wi ((8 : Int) * x1))) <|
  L1 (v1 ||| (YL u1.toUInt64 ((wi ((8 : Int) * x1)).toNat))) (wi (x1 + (1 : Int))))
  (some v1)

def desc_raw_getL1 (rp0 : List UInt8) (atp1 : Int) (np2 : Int) : Nat → UInt64 → Int → Option UInt64
  | 0, _, _ => none
  | nf + 1, v1, x1 => desc_raw_getL1B rp0 atp1 np2 (desc_raw_getL1 rp0 atp1 np2 nf) v1 x1

def Xo (rp0 : List UInt8) (atp1 : Int) (np2 : Int) : Option UInt64 :=
  desc_raw_getL1 rp0 atp1 np2 fuel (0 : UInt64) (0 : Int)

def desc_Read (b : List UInt8) : Option (Desc × Int) :=
  br ((len b) != (16 : Int))
  (some ((Desc.mk (0 : UInt64) (0 : UInt32) (0 : UInt16) (0 : UInt16)), (4 : Int)))
  (chk (Nat.ble 16 b.length) <|
  chk ((b.take 16).length == 16) <|
  ob (Xo (b.take 16) (0 : Int) (8 : Int)) fun get1 =>
  ob (Xo (b.take 16) (8 : Int) (4 : Int)) fun get2 =>
  ob (Xo (b.take 16) (12 : Int) (2 : Int)) fun get3 =>
  ob (Xo (b.take 16) (14 : Int) (2 : Int)) fun get4 =>
  some ((Desc.mk get1 get2.toUInt32 get3.toUInt16 get4.toUInt16), (0 : Int)))

def Kg (m : gmem_Mem) (atp1 : UInt64) (np2 : UInt64) : Option Bool :=
  ob (XG m) fun made1 =>
  ob (XL m atp1 np2) fun bytes1 =>
  onO bytes1
  (some false)
  (fun w1 =>
  ob (ix m.b w1.1) fun row1 =>
  chk (decide (0 ≤ w1.2.1 ∧ w1.2.1 ≤ w1.2.2 ∧ w1.2.2 ≤ len row1)) <|
  chk (decide (w1.2.1 < w1.2.2)) <|
  some true)

def Ke (m : gmem_Mem) (atp1 : UInt64) (np2 : UInt32) : Option (Int × Int) :=
  br (np2 == (0 : UInt32))
  (some ((0 : Int), (4 : Int)))
  (br ((np2 % (16 : UInt32)) != (0 : UInt32))
  (some ((0 : Int), (4 : Int)))
  (br (decide ((np2 / (16 : UInt32)) > (64 : UInt32)))
  (some ((0 : Int), (4 : Int)))
  (ob (Kg m atp1 np2.toUInt64) fun has1 =>
  br ((!has1))
  (some ((0 : Int), (5 : Int)))
  (some (i32 (np2 / (16 : UInt32)), (0 : Int))))))

def YP (atp0 : UInt64) (np1 : UInt32) (flags : UInt16) : Option Seg :=
  some (Seg.mk atp0 np1 ((flags &&& (2 : UInt16)) != (0 : UInt16)))

def Yk (atp0 : UInt64) (size : Int) (arg5 : gmem_Mem) (L1 : Int → Int → Int → Bool → (List Seg) → (List (Int × Bool)) → Option (Int × Int × Bool × (List Seg))) (k1 : Int) (m1 : Int) (m2 : Int) (m3 : Bool) (l1 : List Seg) (map1 : List (Int × Bool)) : Option (Int × Int × Bool × (List Seg)) :=
  br (mget false k1 map1)
  (some ((4 : Int), m2, m3, l1))
  (br (decide (k1 < (0 : Int)))
  (some ((4 : Int), m2, m3, l1))
  (br (decide (k1 ≥ size))
  (some ((4 : Int), m2, m3, l1))
  (ob (ZL arg5 (atp0 + ((16 : UInt64) * (u64 k1))) (16 : Int)) fun Xe =>
  br (Xe.2 != (0 : Int))
  (some ((5 : Int), m2, m3, l1))
  (ob (desc_Read Xe.1) fun read2 =>
  br ((read2.1.Flags &&& (4 : UInt16)) != (0 : UInt16))
  (some ((4 : Int), wi (m2 + (1 : Int)), m3, l1))
  (ob (YP read2.1.Addr read2.1.Len read2.1.Flags) fun made1 =>
  chk (fits l1.length [made1].length 16) <|
  br ((read2.1.Flags &&& (1 : UInt16)) == (0 : UInt16))
  (some (m1, wi (m2 + (1 : Int)), m3, l1 ++ [made1]))
  (L1 (i16 read2.1.Next) m1 (wi (m2 + (1 : Int))) m3 (l1 ++ [made1]) (mput k1 true map1)))))))

def Xq (atp0 : UInt64) (size : Int) (arg5 : gmem_Mem) : Nat → Int → Int → Int → Bool → (List Seg) → (List (Int × Bool)) → Option (Int × Int × Bool × (List Seg))
  | 0, _, _, _, _, _, _ => none
  | nf + 1, k1, m1, m2, m3, l1, map1 => Yk atp0 size arg5 (Xq atp0 size arg5 nf) k1 m1 m2 m3 l1 map1

def Kk (atp0 : UInt64) (size : Int) (kp2 : Int) (arg4 : Int) (arg5 : gmem_Mem) (arg6 : Int) (arg7 : Bool) (arg9 : List Seg) : Option (Int × Int × Bool × (List Seg)) :=
  Xq atp0 size arg5 fuel kp2 arg4 arg6 arg7 arg9 ([] : List (Int × Bool))

def Xs  (m4 : Int) (m5 : Int) (m6 : Bool) (l2 : List Seg) : Option (Int × Int × Bool × (List Seg)) :=
  some (m4, m5, m6, l2)

def Yl (atp0 : UInt64) (size : Int) (arg5 : gmem_Mem) (L1 : Int → Int → Int → Bool → (List Seg) → (List (Int × Bool)) → Option (Int × Int × Bool × (List Seg))) (k1 : Int) (m1 : Int) (m2 : Int) (m3 : Bool) (l1 : List Seg) (map1 : List (Int × Bool)) : Option (Int × Int × Bool × (List Seg)) :=
  br (mget false k1 map1)
  (some ((4 : Int), m2, m3, l1))
  (br (decide (k1 < (0 : Int)))
  (some ((4 : Int), m2, m3, l1))
  (br (decide (k1 ≥ size))
  (some ((4 : Int), m2, m3, l1))
  (ob (ZL arg5 (atp0 + ((16 : UInt64) * (u64 k1))) (16 : Int)) fun Xe =>
  br (Xe.2 != (0 : Int))
  (some ((5 : Int), m2, m3, l1))
  (ob (desc_Read Xe.1) fun read2 =>
  br ((read2.1.Flags &&& (4 : UInt16)) != (0 : UInt16))
  (br ((!m3))
  (some ((4 : Int), wi (m2 + (1 : Int)), m3, l1))
  (br ((read2.1.Flags &&& (1 : UInt16)) != (0 : UInt16))
  (some ((4 : Int), wi (m2 + (1 : Int)), m3, l1))
  (ob (Ke arg5 read2.1.Addr read2.1.Len) fun entrie1 =>
  br (entrie1.2 == (0 : Int))
  (ob (Kk read2.1.Addr entrie1.1 (0 : Int) entrie1.2 arg5 (wi (m2 + (1 : Int))) m3 l1) fun split1 =>
  Xs split1.1 split1.2.1 split1.2.2.1 split1.2.2.2)
  (Xs entrie1.2 (wi (m2 + (1 : Int))) m3 l1))))
  (ob (YP read2.1.Addr read2.1.Len read2.1.Flags) fun made1 =>
  chk (fits l1.length [made1].length 16) <|
  br ((read2.1.Flags &&& (1 : UInt16)) == (0 : UInt16))
  (some (m1, wi (m2 + (1 : Int)), m3, l1 ++ [made1]))
  (L1 (i16 read2.1.Next) m1 (wi (m2 + (1 : Int))) m3 (l1 ++ [made1]) (mput k1 true map1)))))))

def Xr (atp0 : UInt64) (size : Int) (arg5 : gmem_Mem) : Nat → Int → Int → Int → Bool → (List Seg) → (List (Int × Bool)) → Option (Int × Int × Bool × (List Seg))
  | 0, _, _, _, _, _, _ => none
  | nf + 1, k1, m1, m2, m3, l1, map1 => Yl atp0 size arg5 (Xr atp0 size arg5 nf) k1 m1 m2 m3 l1 map1

def Kl (atp0 : UInt64) (size : Int) (kp2 : Int) (arg4 : Int) (arg5 : gmem_Mem) (arg6 : Int) (arg7 : Bool) (arg9 : List Seg) : Option (Int × Int × Bool × (List Seg)) :=
  Xr atp0 size arg5 fuel kp2 arg4 arg6 arg7 arg9 ([] : List (Int × Bool))

def walk_split (m : gmem_Mem) (rp1 : Rings) (head : Int) (table : Bool) : Option ((List Seg) × Int × Int) :=
  ob (Kl rp1.Desc rp1.Size head (0 : Int) m (0 : Int) table ([] : List Seg)) fun split1 =>
  some (split1.2.2.2, split1.2.1, split1.1)

def Ys (arg0 : Int) (arg1 : UInt64) : Option Int :=
  br (arg0 == (0 : Int))
  (br (decide (arg1 ≥ (4294967296 : UInt64)))
  (some (2 : Int))
  (some arg0))
  (some arg0)

def seg_CheckL1B (l : List Seg) (L1 : Int → UInt64 → Int → Option Int) (m1 : Int) (m2 : UInt64) (x1 : Int) : Option Int :=
  br (decide (x1 < (len l)))
  (ob (ix l x1) fun s1 =>
  br (decide (s1.Len < (1 : UInt32)))
  (ob (Ys (2 : Int) m2) fun check1 =>
  some check1)
  (br (decide ((s1.Len.toUInt64 - (1 : UInt64)) > ((18446744073709551615 : UInt64) - s1.At)))
  (ob (Ys (2 : Int) m2) fun check2 =>
  some check2)
  (br (decide (x1 > (0 : Int)))
  (ob (ix l (wi (x1 - (1 : Int)))) fun s2 =>
  br (s2.Write)
  (br ((!s1.Write))
  (ob (Ys (2 : Int) m2) fun check3 =>
  some check3)
  (L1 m1 (m2 + s1.Len.toUInt64) (wi (x1 + (1 : Int)))))
  (L1 m1 (m2 + s1.Len.toUInt64) (wi (x1 + (1 : Int)))))
  (L1 m1 (m2 + s1.Len.toUInt64) (wi (x1 + (1 : Int)))))))
  (ob (Ys (0 : Int) m2) fun check4 =>
  some check4)

def Ka (l : List Seg) : Nat → Int → UInt64 → Int → Option Int
  | 0, _, _, _ => none
  | nf + 1, m1, m2, x1 => seg_CheckL1B l (Ka l nf) m1 m2 x1

def seg_Check (l : List Seg) : Option Int :=
  br (decide ((len l) > (64 : Int)))
  (some (3 : Int))
  (Ka l fuel (0 : Int) (0 : UInt64) (0 : Int))

def seg_InL1B (m : gmem_Mem) (l : List Seg) (L1 : Int → Option Int) (x1 : Int) : Option Int :=
  br (decide (x1 < (len l)))
  (ob (ix l x1) fun s1 =>
  ob (Kg m s1.At s1.Len.toUInt64) fun has1 =>
  br ((!has1))
  (some (5 : Int))
  (L1 (wi (x1 + (1 : Int)))))
  (some (0 : Int))

def seg_InL1 (m : gmem_Mem) (l : List Seg) : Nat → Int → Option Int
  | 0, _ => none
  | nf + 1, x1 => seg_InL1B m l (seg_InL1 m l nf) x1

def seg_In (m : gmem_Mem) (l : List Seg) : Option Int :=
  ob (ZL m (0 : UInt64) (0 : Int)) fun Xe =>
  br (Xe.2 != (0 : Int))
  (some Xe.2)
  (ob (seg_Check l) fun check1 =>
  br (check1 != (0 : Int))
  (some check1)
  (seg_InL1 m l fuel (0 : Int)))

def walk_looked (m : gmem_Mem) (l : List Seg) : Option ((List Seg) × Int) :=
  br ((len l) == (0 : Int))
  (some (([] : List Seg), (4 : Int)))
  (ob (seg_Check l) fun check1 =>
  br (check1 != (0 : Int))
  (some (([] : List Seg), (4 : Int)))
  (ob (seg_In m l) fun in1 =>
  br (in1 != (0 : Int))
  (some (([] : List Seg), in1))
  (some (l, (0 : Int)))))

def Kf (m : gmem_Mem) (rp1 : Rings) (head : Int) (table : Bool) : Option ((List Seg) × Int) :=
  ob (YZ m rp1 false) fun refuse1 =>
  br (refuse1 != (0 : Int))
  (some (([] : List Seg), refuse1))
  (ob (walk_split m rp1 head table) fun split1 =>
  br (split1.2.2 != (0 : Int))
  (some (([] : List Seg), split1.2.2))
  (ob (walk_looked m split1.1) fun looked1 =>
  some (looked1.1, looked1.2)))

def Kw (ap0 : List Seg) (b : List Seg) (L1 : Int → Option Bool) (i1 : Int) : Option Bool :=
  br (decide (i1 < (len ap0)))
  (ob (ix ap0 i1) fun s1 =>
  ob (ix b i1) fun s2 =>
  br (s1 != s2)
  (some false)
  (L1 (wi (i1 + (1 : Int)))))
  (some true)

def Yh (ap0 : List Seg) (b : List Seg) : Nat → Int → Option Bool
  | 0, _ => none
  | nf + 1, i1 => Kw ap0 b (Yh ap0 b nf) i1

def Yw (ap0 : List Seg) (b : List Seg) : Option Bool :=
  br ((len ap0) != (len b))
  (some false)
  (Yh ap0 b fuel (0 : Int))

def law10zlives  : Option Bool :=
  ob (Kc false (4 : Int) (0 : UInt64)) fun place1 =>
  ob (gmem_New [(Region.mk (0 : UInt64) (1000 : UInt64))]) fun new1 =>
  onO new1.1
  (none)
  (fun mem1 =>
  br (place1.2.2 != (0 : Int))
  (some false)
  (br (new1.2 != (0 : Int))
  (some false)
  (ob (Kd (Desc.mk (200 : UInt64) (4 : UInt32) (1 : UInt16) (0 : UInt16))) fun bytes1 =>
  ob (ZZ mem1 (0 : UInt64) bytes1) fun write1 =>
  ob (Kf (gmem_Mem.mk mem1.l write1.2) place1.1 (0 : Int) true) fun split1 =>
  ob (Kd (Desc.mk (200 : UInt64) (4 : UInt32) (0 : UInt16) (0 : UInt16))) fun bytes2 =>
  ob (ZZ (gmem_Mem.mk mem1.l write1.2) (0 : UInt64) bytes2) fun write2 =>
  ob (Kd (Desc.mk (900 : UInt64) (200 : UInt32) (0 : UInt16) (0 : UInt16))) fun bytes3 =>
  ob (ZZ (gmem_Mem.mk mem1.l write2.2) (16 : UInt64) bytes3) fun write3 =>
  ob (Kf (gmem_Mem.mk mem1.l write3.2) place1.1 (0 : Int) true) fun split2 =>
  ob (Kf (gmem_Mem.mk mem1.l write3.2) place1.1 (1 : Int) true) fun split3 =>
  br (split1.2 == (4 : Int))
  (br (split2.2 == (0 : Int))
  (ob (Yw split2.1 [(Seg.mk (200 : UInt64) (4 : UInt32) false)]) fun samese1 =>
  br (samese1)
  (some (split3.2 == (5 : Int)))
  (some false))
  (some false))
  (some false))))

def kit_Pick (np0 : Int) (m : Int) : Option Int :=
  br (decide (m < (1 : Int)))
  (some (0 : Int))
  (chk (!(m == 0)) <|
  br (decide ((remi np0 m) < (0 : Int)))
  (some (wi ((remi np0 m) + m)))
  (some (remi np0 m)))

def ref_Check02L1B (l : List Region) (L1 : UInt64 → Int → Option Int) (sum1 : UInt64) (i1 : Int) : Option Int :=
  br (decide (i1 < (len l)))
  (ob (ix l i1) fun r1 =>
  br (r1.Len == (0 : UInt64))
  (some (2 : Int))
  (ob (ix l i1) fun r2 =>
  br (decide (r2.Len > (1048576 : UInt64)))
  (some (2 : Int))
  (ob (ix l i1) fun r3 =>
  ob (ix l i1) fun r4 =>
  ob (ix l i1) fun r5 =>
  br (decide ((r3.At + (r4.Len - (1 : UInt64))) < r5.At))
  (some (2 : Int))
  (ob (ix l i1) fun r6 =>
  br (decide (i1 > (0 : Int)))
  (ob (ix l i1) fun r7 =>
  ob (ix l (wi (i1 - (1 : Int)))) fun r8 =>
  ob (ix l (wi (i1 - (1 : Int)))) fun r9 =>
  br (decide (r7.At ≤ (r8.At + (r9.Len - (1 : UInt64)))))
  (some (2 : Int))
  (L1 (sum1 + r6.Len) (wi (i1 + (1 : Int)))))
  (L1 (sum1 + r6.Len) (wi (i1 + (1 : Int))))))))
  (br (decide (sum1 > (1048576 : UInt64)))
  (some (2 : Int))
  (some (0 : Int)))

def YH (l : List Region) : Nat → UInt64 → Int → Option Int
  | 0, _, _ => none
  | nf + 1, sum1, i1 => ref_Check02L1B l (YH l nf) sum1 i1

def ref_Check02 (l : List Region) : Option Int :=
  br (decide ((len l) > (16 : Int)))
  (some (2 : Int))
  (YH l fuel (0 : UInt64) (0 : Int))

def ref_New02L1B (l : List Region) (L1 : (List Region) → (List (List UInt8)) → Int → Option ((Option dumbwaiterref02_Mem) × Int)) (l1 : List Region) (rows1 : List (List UInt8)) (i1 : Int) : Option ((Option dumbwaiterref02_Mem) × Int) :=
  br (decide (i1 < (len l)))
  (ob (ix l i1) fun r1 =>
  chk (decide (0 ≤ (r1.Len.toNat : Int) ∧ (r1.Len.toNat : Int) ≤ (r1.Len.toNat : Int) ∧ (1 : Int) * (r1.Len.toNat : Int) ≤ 140737488355328)) <|
  chk (fits rows1.length 1 24) <|
  L1 l1 (rows1 ++ [List.replicate (Int.toNat (r1.Len.toNat : Int)) (0 : UInt8)]) (wi (i1 + (1 : Int))))
  (some ((some (dumbwaiterref02_Mem.mk l1 rows1)), (0 : Int)))

def ref_New02L1 (l : List Region) : Nat → (List Region) → (List (List UInt8)) → Int → Option ((Option dumbwaiterref02_Mem) × Int)
  | 0, _, _, _ => none
  | nf + 1, l1, rows1, i1 => ref_New02L1B l (ref_New02L1 l nf) l1 rows1 i1

def ref_New02 (l : List Region) : Option ((Option dumbwaiterref02_Mem) × Int) :=
  ob (ref_Check02 l) fun check1 =>
  br (check1 != (0 : Int))
  (some ((none : Option dumbwaiterref02_Mem), (2 : Int)))
  (chk (fits ([] : List Region).length l.length 16) <|
  ref_New02L1 l fuel l ([] : List (List UInt8)) (0 : Int))

def YE (m : dumbwaiterref02_Mem) (atp1 : UInt64) (np2 : UInt64) (L1 : Int → Option (Int × Int)) (i1 : Int) : Option (Int × Int) :=
  br (decide (i1 < (len m.L)))
  (ob (ix m.L i1) fun r1 =>
  br (decide (np2 ≥ (1 : UInt64)))
  (br (decide (atp1 ≥ r1.At))
  (br (decide (np2 ≤ r1.Len))
  (br (decide ((atp1 - r1.At) ≤ (r1.Len - np2)))
  (some (i1, i64 (atp1 - r1.At)))
  (L1 (wi (i1 + (1 : Int)))))
  (L1 (wi (i1 + (1 : Int)))))
  (L1 (wi (i1 + (1 : Int)))))
  (L1 (wi (i1 + (1 : Int)))))
  (some (((-1) : Int), (0 : Int)))

def Xi (m : dumbwaiterref02_Mem) (atp1 : UInt64) (np2 : UInt64) : Nat → Int → Option (Int × Int)
  | 0, _ => none
  | nf + 1, i1 => YE m atp1 np2 (Xi m atp1 np2 nf) i1

def XK (m : dumbwaiterref02_Mem) (atp1 : UInt64) (np2 : UInt64) : Option (Int × Int) :=
  Xi m atp1 np2 fuel (0 : Int)

def XQ (m : dumbwaiterref02_Mem) (atp1 : UInt64) (b : List UInt8) : Option (Int × (List (List UInt8))) :=
  br ((len b) == (0 : Int))
  (some ((0 : Int), m.B))
  (ob (XK m atp1 (u64 (len b))) fun Xz =>
  br (decide (Xz.1 < (0 : Int)))
  (some ((5 : Int), m.B))
  (ob (ix m.B Xz.1) fun row1 =>
  chk (decide (0 ≤ Xz.2 ∧ Xz.2 ≤ (len row1) ∧ (len row1) ≤ len row1)) <|
  some ((0 : Int), m.B.set (Int.toNat Xz.1) (copyAt row1 Xz.2 (len row1) b))))

def YD (dp0 : Packed) : Option (List UInt8) :=
  ob (YR ([] : List UInt8) dp0.Addr (8 : Int)) fun put1 =>
  ob (YR put1 dp0.Len.toUInt64 (4 : Int)) fun put2 =>
  ob (YR put2 dp0.ID.toUInt64 (2 : Int)) fun put3 =>
  ob (YR put3 dp0.Flags.toUInt64 (2 : Int)) fun put4 =>
  some put4

def Yv (l : List dumbwaiterlaw10_Spot) (mem1 : gmem_Mem) (mem2 : dumbwaiterref02_Mem) (m1 : Rings) (m2 : Rings) (rows1 : List (List UInt8)) (rows2 : List (List UInt8)) (i1 : Int) (L1 : Rings → Rings → (List (List UInt8)) → (List (List UInt8)) → Int → Option ((Option gmem_Mem) × (Option dumbwaiterref02_Mem) × Rings × Bool)) (b5 : List UInt8) : Option ((Option gmem_Mem) × (Option dumbwaiterref02_Mem) × Rings × Bool) :=
  ob (ix l i1) fun d2 =>
  ob (kit_Pick d2.At (750 : Int)) fun pick1 =>
  ob (ZZ (gmem_Mem.mk mem1.l rows1) (u64 (wi ((16 : Int) * pick1))) b5) fun write1 =>
  ob (XQ (dumbwaiterref02_Mem.mk mem2.L rows2) (u64 (wi ((16 : Int) * pick1))) b5) fun write2 =>
  L1 m1 m2 write1.2 write2.2 (wi (i1 + (1 : Int)))

def law10zlaidL1B (packed : Bool) (l : List dumbwaiterlaw10_Spot) (mem1 : gmem_Mem) (mem2 : dumbwaiterref02_Mem) (L1 : Rings → Rings → (List (List UInt8)) → (List (List UInt8)) → Int → Option ((Option gmem_Mem) × (Option dumbwaiterref02_Mem) × Rings × Bool)) (m1 : Rings) (m2 : Rings) (rows1 : List (List UInt8)) (rows2 : List (List UInt8)) (i1 : Int) : Option ((Option gmem_Mem) × (Option dumbwaiterref02_Mem) × Rings × Bool) :=
  br (decide (i1 < (len l)))
  (ob (ix l i1) fun d1 =>
  ob (Kd d1.Split) fun bytes1 =>
  br (packed)
  (ob (ix l i1) fun d3 =>
  ob (YD d3.Packed) fun packed1 =>
  Yv l mem1 mem2 m1 m2 rows1 rows2 i1 L1 packed1)
  (Yv l mem1 mem2 m1 m2 rows1 rows2 i1 L1 bytes1))
  (some ((some (gmem_Mem.mk mem1.l rows1)), (some (dumbwaiterref02_Mem.mk mem2.L rows2)), m2, true))

def XF (packed : Bool) (l : List dumbwaiterlaw10_Spot) (mem1 : gmem_Mem) (mem2 : dumbwaiterref02_Mem) : Nat → Rings → Rings → (List (List UInt8)) → (List (List UInt8)) → Int → Option ((Option gmem_Mem) × (Option dumbwaiterref02_Mem) × Rings × Bool)
  | 0, _, _, _, _, _ => none
  | nf + 1, m1, m2, rows1, rows2, i1 => law10zlaidL1B packed l mem1 mem2 (XF packed l mem1 mem2 nf) m1 m2 rows1 rows2 i1

def law10zlaid (size : Int) (packed : Bool) (l : List dumbwaiterlaw10_Spot) : Option ((Option gmem_Mem) × (Option dumbwaiterref02_Mem) × Rings × Bool) :=
  ob (Kc packed size (0 : UInt64)) fun place1 =>
  ob (gmem_New [(Region.mk (0 : UInt64) (12000 : UInt64))]) fun new1 =>
  onO new1.1
  (none)
  (fun mem1 =>
  ob (ref_New02 [(Region.mk (0 : UInt64) (12000 : UInt64))]) fun new2 =>
  onO new2.1
  (none)
  (fun mem2 =>
  br (place1.2.2 != (0 : Int))
  (some ((none : Option gmem_Mem), (none : Option dumbwaiterref02_Mem), place1.1, false))
  (br (new1.2 != (0 : Int))
  (some ((none : Option gmem_Mem), (none : Option dumbwaiterref02_Mem), place1.1, false))
  (br (new2.2 != (0 : Int))
  (some ((none : Option gmem_Mem), (none : Option dumbwaiterref02_Mem), place1.1, false))
  (XF packed l mem1 mem2 fuel (Rings.mk false (0 : Int) (0 : UInt64) (0 : UInt64) (0 : UInt64)) place1.1 mem1.b mem2.B (0 : Int))))))

def walk_Reads (m : gmem_Mem) (rp1 : Rings) (head : Int) (table : Bool) : Option Int :=
  ob (YZ m rp1 false) fun refuse1 =>
  br (refuse1 != (0 : Int))
  (some (0 : Int))
  (ob (walk_split m rp1 head table) fun split1 =>
  some split1.2.1)

def Yr (pp0 : Pos) (size : Int) : Option Int :=
  ob (YC size) fun issize1 =>
  br ((!issize1))
  (some (2 : Int))
  (br (decide (pp0.At < (0 : Int)))
  (some (2 : Int))
  (br (decide (pp0.At ≥ size))
  (some (2 : Int))
  (some (0 : Int))))

def Xw (b : List UInt8) : Option (Packed × Int) :=
  br ((len b) != (16 : Int))
  (some ((Packed.mk (0 : UInt64) (0 : UInt32) (0 : UInt16) (0 : UInt16)), (4 : Int)))
  (chk (Nat.ble 16 b.length) <|
  chk ((b.take 16).length == 16) <|
  ob (Xo (b.take 16) (0 : Int) (8 : Int)) fun get1 =>
  ob (Xo (b.take 16) (8 : Int) (4 : Int)) fun get2 =>
  ob (Xo (b.take 16) (12 : Int) (2 : Int)) fun get3 =>
  ob (Xo (b.take 16) (14 : Int) (2 : Int)) fun get4 =>
  some ((Packed.mk get1 get2.toUInt32 get3.toUInt16 get4.toUInt16), (0 : Int)))

def serial_Go (pp0 : Pos) (byp1 : Int) (size : Int) : Option (Pos × Int) :=
  ob (Yr pp0 size) fun check1 =>
  br (check1 != (0 : Int))
  (some ((Pos.mk (0 : Int) false), (2 : Int)))
  (br (decide (byp1 < (0 : Int)))
  (some ((Pos.mk (0 : Int) false), (2 : Int)))
  (br (decide (byp1 > size))
  (some ((Pos.mk (0 : Int) false), (2 : Int)))
  (br (decide ((wi (pp0.At + byp1)) ≥ size))
  (some ((Pos.mk (wi ((wi (pp0.At + byp1)) - size)) (!pp0.Wrap)), (0 : Int)))
  (some ((Pos.mk (wi (pp0.At + byp1)) pp0.Wrap), (0 : Int))))))

def YN (m : gmem_Mem) (atp1 : UInt64) (entrie1 : (Int × Int)) (L1 : (List Seg) → Int → Int → Option ((List Seg) × Int)) (l1 : List Seg) (e1 : Int) (x1 : Int) : Option ((List Seg) × Int) :=
  br (decide (x1 < entrie1.1))
  (ob (ZL m (atp1 + ((16 : UInt64) * (u64 x1))) (16 : Int)) fun Xe =>
  ob (Xw Xe.1) fun readpa1 =>
  br ((readpa1.1.Flags &&& (4 : UInt16)) != (0 : UInt16))
  (some (([] : List Seg), (4 : Int)))
  (ob (YP readpa1.1.Addr readpa1.1.Len readpa1.1.Flags) fun made1 =>
  chk (fits l1.length [made1].length 16) <|
  L1 (l1 ++ [made1]) e1 (wi (x1 + (1 : Int)))))
  (some (l1, e1))

def XT (m : gmem_Mem) (atp1 : UInt64) (entrie1 : (Int × Int)) : Nat → (List Seg) → Int → Int → Option ((List Seg) × Int)
  | 0, _, _, _ => none
  | nf + 1, l1, e1, x1 => YN m atp1 entrie1 (XT m atp1 entrie1 nf) l1 e1 x1

def walk_within (m : gmem_Mem) (atp1 : UInt64) (np2 : UInt32) : Option ((List Seg) × Int) :=
  ob (Ke m atp1 np2) fun entrie1 =>
  XT m atp1 entrie1 fuel [] entrie1.2 (0 : Int)

def YO (m : gmem_Mem) (table : Bool) (L1 : Rings → Pos → Int → Int → (List Seg) → Option (Taken × Int)) (m1 : Rings) (m2 : Pos) (ID1 : Int) (Count1 : Int) (Segs1 : List Seg) : Option (Taken × Int) :=
  br (decide (Count1 < m1.Size))
  (ob (ZL m (m1.Desc + ((16 : UInt64) * (u64 m2.At))) (16 : Int)) fun Xe =>
  br (Xe.2 != (0 : Int))
  (some ((Taken.mk ID1 Count1 Segs1), (5 : Int)))
  (ob (Xw Xe.1) fun readpa1 =>
  ob (serial_Go m2 (1 : Int) m1.Size) fun go1 =>
  br ((readpa1.1.Flags &&& (4 : UInt16)) != (0 : UInt16))
  (br ((!table))
  (some ((Taken.mk (i16 readpa1.1.ID) (wi (Count1 + (1 : Int))) Segs1), (4 : Int)))
  (br (decide ((wi (Count1 + (1 : Int))) > (1 : Int)))
  (some ((Taken.mk (i16 readpa1.1.ID) (wi (Count1 + (1 : Int))) Segs1), (4 : Int)))
  (br ((readpa1.1.Flags &&& (1 : UInt16)) != (0 : UInt16))
  (some ((Taken.mk (i16 readpa1.1.ID) (wi (Count1 + (1 : Int))) Segs1), (4 : Int)))
  (ob (walk_within m readpa1.1.Addr readpa1.1.Len) fun within1 =>
  some ((Taken.mk (i16 readpa1.1.ID) (wi (Count1 + (1 : Int))) within1.1), within1.2)))))
  (ob (YP readpa1.1.Addr readpa1.1.Len readpa1.1.Flags) fun made1 =>
  chk (fits Segs1.length [made1].length 16) <|
  br ((readpa1.1.Flags &&& (1 : UInt16)) == (0 : UInt16))
  (some ((Taken.mk (i16 readpa1.1.ID) (wi (Count1 + (1 : Int))) (Segs1 ++ [made1])), (0 : Int)))
  (L1 m1 go1.1 (i16 readpa1.1.ID) (wi (Count1 + (1 : Int))) (Segs1 ++ [made1])))))
  (some ((Taken.mk ID1 Count1 Segs1), (4 : Int)))

def XU (m : gmem_Mem) (table : Bool) : Nat → Rings → Pos → Int → Int → (List Seg) → Option (Taken × Int)
  | 0, _, _, _, _, _ => none
  | nf + 1, m1, m2, ID1, Count1, Segs1 => YO m table (XU m table nf) m1 m2 ID1 Count1 Segs1

def walk_packed (m : gmem_Mem) (rp1 : Rings) (pp2 : Pos) (table : Bool) : Option (Taken × Int) :=
  XU m table fuel rp1 pp2 (0 : Int) (0 : Int) ([] : List Seg)

def XV  (ID1 : Int) (Count1 : Int) (Segs1 : List Seg) (e3 : Int) (ID2 : Int) (Count2 : Int) (Segs2 : List Seg) : Option (Taken × Int) :=
  br (e3 != (0 : Int))
  (some ((Taken.mk (0 : Int) (0 : Int) ([] : List Seg)), e3))
  (some ((Taken.mk ID2 Count2 Segs2), (0 : Int)))

def XW (m : gmem_Mem) (packed1 : (Taken × Int)) (e2 : Int) : Option (Taken × Int) :=
  br (e2 == (0 : Int))
  (ob (walk_looked m packed1.1.Segs) fun looked1 =>
  XV (0 : Int) (0 : Int) ([] : List Seg) looked1.2 packed1.1.ID packed1.1.Count looked1.1)
  (XV (0 : Int) (0 : Int) ([] : List Seg) e2 packed1.1.ID packed1.1.Count packed1.1.Segs)

def XX (m : gmem_Mem) (rp1 : Rings) (pp2 : Pos) (table : Bool) (e1 : Int) : Option (Taken × Int) :=
  br (e1 != (0 : Int))
  (some ((Taken.mk (0 : Int) (0 : Int) ([] : List Seg)), e1))
  (ob (walk_packed m rp1 pp2 table) fun packed1 =>
  br (packed1.2 == (0 : Int))
  (br (decide (packed1.1.ID ≥ rp1.Size))
  (XW m packed1 (4 : Int))
  (XW m packed1 packed1.2))
  (some ((Taken.mk (0 : Int) (0 : Int) ([] : List Seg)), packed1.2)))

def walk_Packed (m : gmem_Mem) (rp1 : Rings) (pp2 : Pos) (table : Bool) : Option (Taken × Int) :=
  ob (YZ m rp1 true) fun refuse1 =>
  br (refuse1 == (0 : Int))
  (ob (Yr pp2 rp1.Size) fun check1 =>
  br (check1 != (0 : Int))
  (XX m rp1 pp2 table (2 : Int))
  (XX m rp1 pp2 table refuse1))
  (some ((Taken.mk (0 : Int) (0 : Int) ([] : List Seg)), refuse1))

def Yt (m : dumbwaiterref02_Mem) (rp1 : Rings) (packed : Bool) : Option Int :=
  ob (ref_Check04 rp1) fun check1 =>
  br (check1 == (0 : Int))
  (br (rp1.Packed != packed)
  (some (2 : Int))
  (some check1))
  (some check1)

def QE (arg0 : dumbwaiterref10_reader) (arg0_m : dumbwaiterref02_Mem) (ep1 : Int) : Option dumbwaiterref10_reader :=
  br (arg0.e == (0 : Int))
  (some (dumbwaiterref10_reader.mk arg0.segs arg0.n ep1))
  (some arg0)

def Xn (m : dumbwaiterref02_Mem) (atp1 : UInt64) (np2 : Int) : Option ((List UInt8) × Int) :=
  br (decide (np2 < (0 : Int)))
  (some (([] : List UInt8), (2 : Int)))
  (br (np2 == (0 : Int))
  (some (([] : List UInt8), (0 : Int)))
  (ob (XK m atp1 (u64 np2)) fun Xz =>
  br (decide (Xz.1 < (0 : Int)))
  (some (([] : List UInt8), (5 : Int)))
  (ob (ix m.B Xz.1) fun row1 =>
  chk (decide (0 ≤ Xz.2 ∧ Xz.2 ≤ (wi (Xz.2 + np2)) ∧ (wi (Xz.2 + np2)) ≤ len row1)) <|
  chk (fits ([] : List UInt8).length (sub row1 Xz.2 (wi (Xz.2 + np2))).length 1) <|
  some (sub row1 Xz.2 (wi (Xz.2 + np2)), (0 : Int)))))

def ref_get03L1B (b : List UInt8) (atp1 : Int) (L1 : UInt64 → Int → Option UInt64) (v1 : UInt64) (i1 : Int) : Option UInt64 :=
  br (decide (i1 ≥ (0 : Int)))
  (ob (ix b (wi (atp1 + i1))) fun y1 =>
  L1 (((256 : UInt64) * v1) + y1.toUInt64) (wi (i1 - (1 : Int))))
  (some v1)

def ref_get03L1 (b : List UInt8) (atp1 : Int) : Nat → UInt64 → Int → Option UInt64
  | 0, _, _ => none
  | nf + 1, v1, i1 => ref_get03L1B b atp1 (ref_get03L1 b atp1 nf) v1 i1

def YS (b : List UInt8) (atp1 : Int) (np2 : Int) : Option UInt64 :=
  ref_get03L1 b atp1 fuel (0 : UInt64) (wi (np2 - (1 : Int)))

def ref_Read03 (b : List UInt8) : Option (Desc × Int) :=
  br ((len b) != (16 : Int))
  (some ((Desc.mk (0 : UInt64) (0 : UInt32) (0 : UInt16) (0 : UInt16)), (4 : Int)))
  (ob (YS b (0 : Int) (8 : Int)) fun get1 =>
  ob (YS b (8 : Int) (4 : Int)) fun get2 =>
  ob (YS b (12 : Int) (2 : Int)) fun get3 =>
  ob (YS b (14 : Int) (2 : Int)) fun get4 =>
  some ((Desc.mk get1 get2.toUInt32 get3.toUInt16 get4.toUInt16), (0 : Int)))

def Xt (arg0 : dumbwaiterref10_reader) (arg0_m : dumbwaiterref02_Mem) (atp1 : UInt64) : Option (Desc × Bool × dumbwaiterref10_reader) :=
  ob (Xn arg0_m atp1 (16 : Int)) fun Xe =>
  br (Xe.2 != (0 : Int))
  (ob (QE arg0 arg0_m (5 : Int)) fun stop1 =>
  some ((Desc.mk (0 : UInt64) (0 : UInt32) (0 : UInt16) (0 : UInt16)), false, stop1))
  (ob (ref_Read03 Xe.1) fun read2 =>
  some (read2.1, true, (dumbwaiterref10_reader.mk arg0.segs (wi (arg0.n + (1 : Int))) arg0.e)))

def YF (m : dumbwaiterref02_Mem) (atp1 : UInt64) (np2 : UInt64) : Option Bool :=
  ob (XK m atp1 np2) fun Xz =>
  some (decide (Xz.1 ≥ (0 : Int)))

def ZV (arg0 : dumbwaiterref10_reader) (arg0_m : dumbwaiterref02_Mem) (atp1 : UInt64) (np2 : UInt32) : Option (Int × Bool × dumbwaiterref10_reader) :=
  br (np2 == (0 : UInt32))
  (ob (QE arg0 arg0_m (4 : Int)) fun stop1 =>
  some ((0 : Int), false, stop1))
  (br ((np2 % (16 : UInt32)) != (0 : UInt32))
  (ob (QE arg0 arg0_m (4 : Int)) fun stop2 =>
  some ((0 : Int), false, stop2))
  (br (decide ((np2 / (16 : UInt32)) > (64 : UInt32)))
  (ob (QE arg0 arg0_m (4 : Int)) fun stop3 =>
  some ((0 : Int), false, stop3))
  (ob (YF arg0_m atp1 np2.toUInt64) fun has1 =>
  br ((!has1))
  (ob (QE arg0 arg0_m (5 : Int)) fun stop4 =>
  some ((0 : Int), false, stop4))
  (some (i32 (np2 / (16 : UInt32)), true, arg0)))))

def ZC (arg0 : dumbwaiterref10_reader) (arg0_m : dumbwaiterref02_Mem) (atp1 : UInt64) (np2 : UInt32) (flags : UInt16) : Option dumbwaiterref10_reader :=
  chk (fits arg0.segs.length [(Seg.mk atp1 np2 ((flags &&& (2 : UInt16)) != (0 : UInt16)))].length 16) <|
  some (dumbwaiterref10_reader.mk (arg0.segs ++ [(Seg.mk atp1 np2 ((flags &&& (2 : UInt16)) != (0 : UInt16)))]) arg0.n arg0.e)

def Zv (arg0_m : dumbwaiterref02_Mem) (atp1 : UInt64) (size : Int) (k1 : Int) (L1 : (List Seg) → Int → Int → (List Int) → Int → Option dumbwaiterref10_reader) (L2 : (List Seg) → Int → Int → (List Int) → Int → Option dumbwaiterref10_reader) (l2 : List Seg) (n2 : Int) (e2 : Int) (l3 : List Int) (i1 : Int) : Option dumbwaiterref10_reader :=
  br (decide (i1 < (len l3)))
  (ob (ix l3 i1) fun y1 =>
  br (y1 == k1)
  (ob (QE (dumbwaiterref10_reader.mk l2 n2 e2) arg0_m (4 : Int)) fun stop1 =>
  some stop1)
  (L2 l2 n2 e2 l3 (wi (i1 + (1 : Int)))))
  (br (decide (k1 < (0 : Int)))
  (ob (QE (dumbwaiterref10_reader.mk l2 n2 e2) arg0_m (4 : Int)) fun stop2 =>
  some stop2)
  (br (decide (k1 ≥ size))
  (ob (QE (dumbwaiterref10_reader.mk l2 n2 e2) arg0_m (4 : Int)) fun stop3 =>
  some stop3)
  (chk (fits l3.length [k1].length 8) <|
  ob (Xt (dumbwaiterref10_reader.mk l2 n2 e2) arg0_m (atp1 + ((16 : UInt64) * (u64 k1)))) fun desc1 =>
  br ((!desc1.2.1))
  (some desc1.2.2)
  (br ((desc1.1.Flags &&& (4 : UInt16)) != (0 : UInt16))
  (ob (QE desc1.2.2 arg0_m (4 : Int)) fun stop4 =>
  some stop4)
  (ob (ZC desc1.2.2 arg0_m desc1.1.Addr desc1.1.Len desc1.1.Flags) fun seg1 =>
  br ((desc1.1.Flags &&& (1 : UInt16)) == (0 : UInt16))
  (some seg1)
  (L1 seg1.segs seg1.n seg1.e (l3 ++ [k1]) (i16 desc1.1.Next)))))))

def Zc (arg0_m : dumbwaiterref02_Mem) (atp1 : UInt64) (size : Int) (k1 : Int) (L1 : (List Seg) → Int → Int → (List Int) → Int → Option dumbwaiterref10_reader) : Nat → (List Seg) → Int → Int → (List Int) → Int → Option dumbwaiterref10_reader
  | 0, _, _, _, _, _ => none
  | nf + 1, l2, n2, e2, l3, i1 => Zv arg0_m atp1 size k1 L1 (Zc arg0_m atp1 size k1 L1 nf) l2 n2 e2 l3 i1

def Xg (arg0_m : dumbwaiterref02_Mem) (atp1 : UInt64) (size : Int) (L1 : (List Seg) → Int → Int → (List Int) → Int → Option dumbwaiterref10_reader) (l1 : List Seg) (n1 : Int) (e1 : Int) (seen1 : List Int) (k1 : Int) : Option dumbwaiterref10_reader :=
  Zc arg0_m atp1 size k1 L1 fuel l1 n1 e1 seen1 (0 : Int)

def QY (arg0_m : dumbwaiterref02_Mem) (atp1 : UInt64) (size : Int) : Nat → (List Seg) → Int → Int → (List Int) → Int → Option dumbwaiterref10_reader
  | 0, _, _, _, _, _ => none
  | nf + 1, l1, n1, e1, seen1, k1 => Xg arg0_m atp1 size (QY arg0_m atp1 size nf) l1 n1 e1 seen1 k1

def XE (arg0 : dumbwaiterref10_reader) (arg0_m : dumbwaiterref02_Mem) (atp1 : UInt64) (size : Int) (head : Int) (table : Bool) : Option dumbwaiterref10_reader :=
  QY arg0_m atp1 size fuel arg0.segs arg0.n arg0.e [] head

def XD (arg0 : dumbwaiterref10_reader) (arg0_m : dumbwaiterref02_Mem) (atp1 : UInt64) (np2 : UInt32) : Option dumbwaiterref10_reader :=
  ob (ZV arg0 arg0_m atp1 np2) fun entrie1 =>
  br (entrie1.2.1)
  (ob (XE entrie1.2.2 arg0_m atp1 entrie1.1 (0 : Int) true) fun chain1 =>
  some chain1)
  (some entrie1.2.2)

def Zw (arg0_m : dumbwaiterref02_Mem) (atp1 : UInt64) (size : Int) (table : Bool) (k1 : Int) (L1 : (List Seg) → Int → Int → (List Int) → Int → Option dumbwaiterref10_reader) (L2 : (List Seg) → Int → Int → (List Int) → Int → Option dumbwaiterref10_reader) (l2 : List Seg) (n2 : Int) (e2 : Int) (l3 : List Int) (i1 : Int) : Option dumbwaiterref10_reader :=
  br (decide (i1 < (len l3)))
  (ob (ix l3 i1) fun y1 =>
  br (y1 == k1)
  (ob (QE (dumbwaiterref10_reader.mk l2 n2 e2) arg0_m (4 : Int)) fun stop1 =>
  some stop1)
  (L2 l2 n2 e2 l3 (wi (i1 + (1 : Int)))))
  (br (decide (k1 < (0 : Int)))
  (ob (QE (dumbwaiterref10_reader.mk l2 n2 e2) arg0_m (4 : Int)) fun stop2 =>
  some stop2)
  (br (decide (k1 ≥ size))
  (ob (QE (dumbwaiterref10_reader.mk l2 n2 e2) arg0_m (4 : Int)) fun stop3 =>
  some stop3)
  (chk (fits l3.length [k1].length 8) <|
  ob (Xt (dumbwaiterref10_reader.mk l2 n2 e2) arg0_m (atp1 + ((16 : UInt64) * (u64 k1)))) fun desc1 =>
  br ((!desc1.2.1))
  (some desc1.2.2)
  (br ((desc1.1.Flags &&& (4 : UInt16)) != (0 : UInt16))
  (br ((!table))
  (ob (QE desc1.2.2 arg0_m (4 : Int)) fun stop4 =>
  some stop4)
  (br ((desc1.1.Flags &&& (1 : UInt16)) != (0 : UInt16))
  (ob (QE desc1.2.2 arg0_m (4 : Int)) fun stop5 =>
  some stop5)
  (ob (XD desc1.2.2 arg0_m desc1.1.Addr desc1.1.Len) fun table1 =>
  some table1)))
  (ob (ZC desc1.2.2 arg0_m desc1.1.Addr desc1.1.Len desc1.1.Flags) fun seg1 =>
  br ((desc1.1.Flags &&& (1 : UInt16)) == (0 : UInt16))
  (some seg1)
  (L1 seg1.segs seg1.n seg1.e (l3 ++ [k1]) (i16 desc1.1.Next)))))))

def Zd (arg0_m : dumbwaiterref02_Mem) (atp1 : UInt64) (size : Int) (table : Bool) (k1 : Int) (L1 : (List Seg) → Int → Int → (List Int) → Int → Option dumbwaiterref10_reader) : Nat → (List Seg) → Int → Int → (List Int) → Int → Option dumbwaiterref10_reader
  | 0, _, _, _, _, _ => none
  | nf + 1, l2, n2, e2, l3, i1 => Zw arg0_m atp1 size table k1 L1 (Zd arg0_m atp1 size table k1 L1 nf) l2 n2 e2 l3 i1

def Xh (arg0_m : dumbwaiterref02_Mem) (atp1 : UInt64) (size : Int) (table : Bool) (L1 : (List Seg) → Int → Int → (List Int) → Int → Option dumbwaiterref10_reader) (l1 : List Seg) (n1 : Int) (e1 : Int) (seen1 : List Int) (k1 : Int) : Option dumbwaiterref10_reader :=
  Zd arg0_m atp1 size table k1 L1 fuel l1 n1 e1 seen1 (0 : Int)

def QZ (arg0_m : dumbwaiterref02_Mem) (atp1 : UInt64) (size : Int) (table : Bool) : Nat → (List Seg) → Int → Int → (List Int) → Int → Option dumbwaiterref10_reader
  | 0, _, _, _, _, _ => none
  | nf + 1, l1, n1, e1, seen1, k1 => Xh arg0_m atp1 size table (QZ arg0_m atp1 size table nf) l1 n1 e1 seen1 k1

def ZN (arg0 : dumbwaiterref10_reader) (arg0_m : dumbwaiterref02_Mem) (atp1 : UInt64) (size : Int) (head : Int) (table : Bool) : Option dumbwaiterref10_reader :=
  QZ arg0_m atp1 size table fuel arg0.segs arg0.n arg0.e [] head

def ref_Check05L1B (l : List Seg) (L1 : UInt64 → Int → Option Int) (sum1 : UInt64) (i1 : Int) : Option Int :=
  br (decide (i1 < (len l)))
  (ob (ix l i1) fun s1 =>
  br (s1.Len == (0 : UInt32))
  (some (2 : Int))
  (ob (ix l i1) fun s2 =>
  ob (ix l i1) fun s3 =>
  ob (ix l i1) fun s4 =>
  br (decide ((s2.At + (s3.Len.toUInt64 - (1 : UInt64))) < s4.At))
  (some (2 : Int))
  (br (decide (i1 > (0 : Int)))
  (ob (ix l (wi (i1 - (1 : Int)))) fun s5 =>
  br (s5.Write)
  (ob (ix l i1) fun s6 =>
  br ((!s6.Write))
  (some (2 : Int))
  (ob (ix l i1) fun s7 =>
  L1 (sum1 + s7.Len.toUInt64) (wi (i1 + (1 : Int)))))
  (ob (ix l i1) fun s8 =>
  L1 (sum1 + s8.Len.toUInt64) (wi (i1 + (1 : Int)))))
  (ob (ix l i1) fun s9 =>
  L1 (sum1 + s9.Len.toUInt64) (wi (i1 + (1 : Int)))))))
  (br (decide (sum1 ≥ (4294967296 : UInt64)))
  (some (2 : Int))
  (some (0 : Int)))

def XY (l : List Seg) : Nat → UInt64 → Int → Option Int
  | 0, _, _ => none
  | nf + 1, sum1, i1 => ref_Check05L1B l (XY l nf) sum1 i1

def ref_Check05 (l : List Seg) : Option Int :=
  br (decide ((len l) > (64 : Int)))
  (some (3 : Int))
  (XY l fuel (0 : UInt64) (0 : Int))

def ref_In05L1B (m : dumbwaiterref02_Mem) (l : List Seg) (L1 : Int → Int → Option Int) (e1 : Int) (i1 : Int) : Option Int :=
  br (decide (i1 < (len l)))
  (br (e1 == (0 : Int))
  (ob (ix l i1) fun s1 =>
  ob (ix l i1) fun s2 =>
  ob (YF m s1.At s2.Len.toUInt64) fun has1 =>
  br ((!has1))
  (L1 (5 : Int) (wi (i1 + (1 : Int))))
  (L1 e1 (wi (i1 + (1 : Int)))))
  (some e1))
  (some e1)

def YG (m : dumbwaiterref02_Mem) (l : List Seg) : Nat → Int → Int → Option Int
  | 0, _, _ => none
  | nf + 1, e1, i1 => ref_In05L1B m l (YG m l nf) e1 i1

def ref_In05 (m : dumbwaiterref02_Mem) (l : List Seg) : Option Int :=
  ob (ref_Check05 l) fun check1 =>
  YG m l fuel check1 (0 : Int)

def Xf  (l1 : List Seg) (n1 : Int) (e1 : Int) : Option ((List Seg) × Int) :=
  br (e1 != (0 : Int))
  (some (([] : List Seg), e1))
  (some (l1, (0 : Int)))

def ZP  (l3 : List Seg) (n3 : Int) (e3 : Int) : Option ((List Seg) × Int) :=
  br (e3 != (0 : Int))
  (some (([] : List Seg), e3))
  (some (l3, (0 : Int)))

def ZQ (arg0_m : dumbwaiterref02_Mem) (l2 : List Seg) (n2 : Int) (e2 : Int) : Option ((List Seg) × Int) :=
  br (e2 == (0 : Int))
  (ob (ref_In05 arg0_m l2) fun in2 =>
  ZP l2 n2 in2)
  (ZP l2 n2 e2)

def XA (arg0 : dumbwaiterref10_reader) (arg0_m : dumbwaiterref02_Mem) : Option ((List Seg) × Int) :=
  br (arg0.e == (0 : Int))
  (br ((len arg0.segs) == (0 : Int))
  (br ((4 : Int) == (0 : Int))
  (ob (ref_In05 arg0_m arg0.segs) fun in1 =>
  Xf arg0.segs arg0.n in1)
  (Xf arg0.segs arg0.n (4 : Int)))
  (ob (ref_Check05 arg0.segs) fun check1 =>
  br (check1 != (0 : Int))
  (ZQ arg0_m arg0.segs arg0.n (4 : Int))
  (ZQ arg0_m arg0.segs arg0.n arg0.e)))
  (some (([] : List Seg), arg0.e))

def ref_Split10 (m : dumbwaiterref02_Mem) (rp1 : Rings) (head : Int) (table : Bool) : Option ((List Seg) × Int) :=
  ob (Yt m rp1 false) fun refuse1 =>
  br (refuse1 != (0 : Int))
  (some (([] : List Seg), refuse1))
  (ob (ZN (dumbwaiterref10_reader.mk ([] : List Seg) (0 : Int) (0 : Int)) m rp1.Desc rp1.Size head table) fun chain1 =>
  ob (XA chain1 m) fun end1 =>
  some (end1.1, end1.2))

def ref_Reads10 (m : dumbwaiterref02_Mem) (rp1 : Rings) (head : Int) (table : Bool) : Option Int :=
  ob (Yt m rp1 false) fun refuse1 =>
  br (refuse1 != (0 : Int))
  (some (0 : Int))
  (ob (ZN (dumbwaiterref10_reader.mk ([] : List Seg) (0 : Int) (0 : Int)) m rp1.Desc rp1.Size head table) fun chain1 =>
  some chain1.n)

def ref_size01 (np0 : Int) : Option Bool :=
  br (decide (np0 ≥ (1 : Int)))
  (some (decide (np0 ≤ (32768 : Int))))
  (some false)

def ref_Check01 (pp0 : Pos) (np1 : Int) : Option Int :=
  ob (ref_size01 np1) fun size1 =>
  br ((!size1))
  (some (2 : Int))
  (br (decide (pp0.At < (0 : Int)))
  (some (2 : Int))
  (br (decide (pp0.At ≥ np1))
  (some (2 : Int))
  (some (0 : Int))))

def XB (b : List UInt8) : Option (Packed × Int) :=
  br ((len b) != (16 : Int))
  (some ((Packed.mk (0 : UInt64) (0 : UInt32) (0 : UInt16) (0 : UInt16)), (4 : Int)))
  (ob (YS b (0 : Int) (8 : Int)) fun get1 =>
  ob (YS b (8 : Int) (4 : Int)) fun get2 =>
  ob (YS b (12 : Int) (2 : Int)) fun get3 =>
  ob (YS b (14 : Int) (2 : Int)) fun get4 =>
  some ((Packed.mk get1 get2.toUInt32 get3.toUInt16 get4.toUInt16), (0 : Int)))

def ref_Go01 (pp0 : Pos) (byp1 : Int) (np2 : Int) : Option (Pos × Int) :=
  ob (ref_Check01 pp0 np2) fun check1 =>
  br (check1 != (0 : Int))
  (some ((Pos.mk (0 : Int) false), (2 : Int)))
  (br (decide (byp1 < (0 : Int)))
  (some ((Pos.mk (0 : Int) false), (2 : Int)))
  (br (decide (byp1 > np2))
  (some ((Pos.mk (0 : Int) false), (2 : Int)))
  (br (decide ((wi (pp0.At + byp1)) ≥ np2))
  (some ((Pos.mk (wi ((wi (pp0.At + byp1)) - np2)) (!pp0.Wrap)), (0 : Int)))
  (some ((Pos.mk (wi (pp0.At + byp1)) pp0.Wrap), (0 : Int))))))

def ZX (arg0_m : dumbwaiterref02_Mem) (atp1 : UInt64) (entrie1 : (Int × Bool × dumbwaiterref10_reader)) (L1 : (List Seg) → Int → Int → Int → Option dumbwaiterref10_reader) (l1 : List Seg) (n1 : Int) (e1 : Int) (i1 : Int) : Option dumbwaiterref10_reader :=
  br (decide (i1 < entrie1.1))
  (br (entrie1.2.1)
  (ob (Xn arg0_m (atp1 + ((16 : UInt64) * (u64 i1))) (16 : Int)) fun Xe =>
  ob (XB Xe.1) fun readpa1 =>
  br ((readpa1.1.Flags &&& (4 : UInt16)) != (0 : UInt16))
  (ob (QE (dumbwaiterref10_reader.mk l1 n1 e1) arg0_m (4 : Int)) fun stop1 =>
  some stop1)
  (ob (ZC (dumbwaiterref10_reader.mk l1 n1 e1) arg0_m readpa1.1.Addr readpa1.1.Len readpa1.1.Flags) fun seg1 =>
  L1 seg1.segs seg1.n seg1.e (wi (i1 + (1 : Int)))))
  (some (dumbwaiterref10_reader.mk l1 n1 e1)))
  (some (dumbwaiterref10_reader.mk l1 n1 e1))

def Zy (arg0_m : dumbwaiterref02_Mem) (atp1 : UInt64) (entrie1 : (Int × Bool × dumbwaiterref10_reader)) : Nat → (List Seg) → Int → Int → Int → Option dumbwaiterref10_reader
  | 0, _, _, _, _ => none
  | nf + 1, l1, n1, e1, i1 => ZX arg0_m atp1 entrie1 (Zy arg0_m atp1 entrie1 nf) l1 n1 e1 i1

def Xv (arg0 : dumbwaiterref10_reader) (arg0_m : dumbwaiterref02_Mem) (atp1 : UInt64) (np2 : UInt32) : Option dumbwaiterref10_reader :=
  ob (ZV arg0 arg0_m atp1 np2) fun entrie1 =>
  Zy arg0_m atp1 entrie1 fuel entrie1.2.2.segs entrie1.2.2.n entrie1.2.2.e (0 : Int)

def XJ (m : dumbwaiterref02_Mem) (ID3 : Int) (Count3 : Int) (Segs3 : List Seg) (l1 : List Seg) (n2 : Int) (e3 : Int) (ID4 : Int) (Count4 : Int) (Segs4 : List Seg) : Option (Taken × Int) :=
  ob (XA (dumbwaiterref10_reader.mk l1 n2 e3) m) fun end1 =>
  br (end1.2 != (0 : Int))
  (some ((Taken.mk (0 : Int) (0 : Int) ([] : List Seg)), end1.2))
  (some ((Taken.mk ID4 Count4 end1.1), (0 : Int)))

def ZG (m : dumbwaiterref02_Mem) (m1 : Rings) (ID1 : Int) (Count1 : Int) (Segs1 : List Seg) (segs1 : List Seg) (n1 : Int) (e2 : Int) (ID2 : Int) (Count2 : Int) (Segs2 : List Seg) : Option (Taken × Int) :=
  br (decide (ID2 ≥ m1.Size))
  (ob (QE (dumbwaiterref10_reader.mk segs1 n1 e2) m (4 : Int)) fun stop1 =>
  XJ m ID1 Count1 Segs1 stop1.segs stop1.n stop1.e ID2 Count2 Segs2)
  (XJ m ID1 Count1 Segs1 segs1 n1 e2 ID2 Count2 Segs2)

def YT (m : dumbwaiterref02_Mem) (m4 : Rings) (ID7 : Int) (Count7 : Int) (Segs7 : List Seg) (l2 : List Seg) (n4 : Int) (e5 : Int) (ID8 : Int) (Count8 : Int) (Segs8 : List Seg) : Option (Taken × Int) :=
  ZG m m4 ID7 Count7 Segs7 l2 n4 e5 ID8 Count8 Segs8

def Yu (m : dumbwaiterref02_Mem) (table : Bool) (L4 : Rings → Pos → Int → Int → (List Seg) → (List Seg) → Int → Int → Int → Int → (List Seg) → Option (Taken × Int)) (m2 : Rings) (m3 : Pos) (ID5 : Int) (Count5 : Int) (Segs5 : List Seg) (segs2 : List Seg) (n3 : Int) (e4 : Int) (ID6 : Int) (Count6 : Int) (Segs6 : List Seg) : Option (Taken × Int) :=
  br (Count6 == m2.Size)
  (ob (QE (dumbwaiterref10_reader.mk segs2 n3 e4) m (4 : Int)) fun stop2 =>
  ZG m m2 ID5 Count5 Segs5 stop2.segs stop2.n stop2.e ID6 Count6 Segs6)
  (ob (Xn m (m2.Desc + ((16 : UInt64) * (u64 m3.At))) (16 : Int)) fun Xe =>
  br (Xe.2 != (0 : Int))
  (ob (QE (dumbwaiterref10_reader.mk segs2 n3 e4) m (5 : Int)) fun stop3 =>
  ZG m m2 ID5 Count5 Segs5 stop3.segs stop3.n stop3.e ID6 Count6 Segs6)
  (ob (XB Xe.1) fun readpa1 =>
  ob (ref_Go01 m3 (1 : Int) m2.Size) fun go1 =>
  br ((readpa1.1.Flags &&& (4 : UInt16)) != (0 : UInt16))
  (br ((!table))
  (ob (QE (dumbwaiterref10_reader.mk segs2 n3 e4) m (4 : Int)) fun stop4 =>
  ZG m m2 ID5 Count5 Segs5 stop4.segs stop4.n stop4.e (i16 readpa1.1.ID) (wi (Count6 + (1 : Int))) Segs6)
  (br (decide ((wi (Count6 + (1 : Int))) > (1 : Int)))
  (ob (QE (dumbwaiterref10_reader.mk segs2 n3 e4) m (4 : Int)) fun stop5 =>
  ZG m m2 ID5 Count5 Segs5 stop5.segs stop5.n stop5.e (i16 readpa1.1.ID) (wi (Count6 + (1 : Int))) Segs6)
  (br ((readpa1.1.Flags &&& (1 : UInt16)) != (0 : UInt16))
  (ob (QE (dumbwaiterref10_reader.mk segs2 n3 e4) m (4 : Int)) fun stop6 =>
  YT m m2 ID5 Count5 Segs5 stop6.segs stop6.n stop6.e (i16 readpa1.1.ID) (wi (Count6 + (1 : Int))) Segs6)
  (ob (Xv (dumbwaiterref10_reader.mk segs2 n3 e4) m readpa1.1.Addr readpa1.1.Len) fun packed1 =>
  YT m m2 ID5 Count5 Segs5 packed1.segs packed1.n packed1.e (i16 readpa1.1.ID) (wi (Count6 + (1 : Int))) Segs6))))
  (ob (ZC (dumbwaiterref10_reader.mk segs2 n3 e4) m readpa1.1.Addr readpa1.1.Len readpa1.1.Flags) fun seg1 =>
  br ((readpa1.1.Flags &&& (1 : UInt16)) == (0 : UInt16))
  (ZG m m2 ID5 Count5 Segs5 seg1.segs seg1.n seg1.e (i16 readpa1.1.ID) (wi (Count6 + (1 : Int))) Segs6)
  (L4 m2 go1.1 ID5 Count5 Segs5 seg1.segs seg1.n seg1.e (i16 readpa1.1.ID) (wi (Count6 + (1 : Int))) Segs6))))

def XI (m : dumbwaiterref02_Mem) (table : Bool) : Nat → Rings → Pos → Int → Int → (List Seg) → (List Seg) → Int → Int → Int → Int → (List Seg) → Option (Taken × Int)
  | 0, _, _, _, _, _, _, _, _, _, _, _ => none
  | nf + 1, m2, m3, ID5, Count5, Segs5, segs2, n3, e4, ID6, Count6, Segs6 => Yu m table (XI m table nf) m2 m3 ID5 Count5 Segs5 segs2 n3 e4 ID6 Count6 Segs6

def Yg (m : dumbwaiterref02_Mem) (rp1 : Rings) (pp2 : Pos) (table : Bool) (e1 : Int) : Option (Taken × Int) :=
  br (e1 != (0 : Int))
  (some ((Taken.mk (0 : Int) (0 : Int) ([] : List Seg)), e1))
  (XI m table fuel rp1 pp2 (0 : Int) (0 : Int) ([] : List Seg) ([] : List Seg) (0 : Int) (0 : Int) (0 : Int) (0 : Int) ([] : List Seg))

def ref_Packed10 (m : dumbwaiterref02_Mem) (rp1 : Rings) (pp2 : Pos) (table : Bool) : Option (Taken × Int) :=
  ob (Yt m rp1 true) fun refuse1 =>
  br (refuse1 == (0 : Int))
  (ob (ref_Check01 pp2 rp1.Size) fun check1 =>
  br (check1 != (0 : Int))
  (Yg m rp1 pp2 table (2 : Int))
  (Yg m rp1 pp2 table refuse1))
  (some ((Taken.mk (0 : Int) (0 : Int) ([] : List Seg)), refuse1))

def kit_Taken (ap0 : Taken) (b : Taken) : Option Bool :=
  br (ap0.ID == b.ID)
  (br (ap0.Count == b.Count)
  (ob (Yw ap0.Segs b.Segs) fun samese1 =>
  some samese1)
  (some false))
  (some false)

def Kv (size : Int) (l : List dumbwaiterlaw10_Spot) (head : Int) (pp3 : Pos) (table : Bool) : Option Bool :=
  ob (law10zlives) fun lives1 =>
  chk (!((!lives1))) <|
  br (decide ((len l) > (40 : Int)))
  (some true)
  (ob (kit_Pick size (8 : Int)) fun pick1 =>
  ob (law10zlaid (shli (1 : Int) ((u64 pick1).toNat)) false l) fun laid1 =>
  onO laid1.1
  (none)
  (fun mem1 =>
  onO laid1.2.1
  (none)
  (fun mem2 =>
  chk (!((!laid1.2.2.2))) <|
  ob (Kf mem1 laid1.2.2.1 head table) fun split1 =>
  ob (ref_Split10 mem2 laid1.2.2.1 head table) fun split2 =>
  ob (Yw split1.1 split2.1) fun samese1 =>
  chk (!((!samese1))) <|
  chk (!(split1.2 != split2.2)) <|
  ob (walk_Reads mem1 laid1.2.2.1 head table) fun reads1 =>
  ob (ref_Reads10 mem2 laid1.2.2.1 head table) fun reads2 =>
  chk (!(reads1 != reads2)) <|
  ob (kit_Pick head (shli (1 : Int) ((u64 pick1).toNat))) fun pick2 =>
  ob (law10zlaid (wi ((shli (1 : Int) ((u64 pick1).toNat)) - pick2)) true l) fun laid2 =>
  onO laid2.1
  (none)
  (fun mem3 =>
  onO laid2.2.1
  (none)
  (fun mem4 =>
  chk (!((!laid2.2.2.2))) <|
  ob (walk_Packed mem3 laid2.2.2.1 pp3 table) fun packed1 =>
  ob (ref_Packed10 mem4 laid2.2.2.1 pp3 table) fun packed2 =>
  ob (kit_Taken packed1.1 packed2.1) fun taken1 =>
  chk (taken1) <|
  chk (packed1.2 == packed2.2) <|
  some true)))))

end Go.Proofs.Ytlofegfaphijpaa
