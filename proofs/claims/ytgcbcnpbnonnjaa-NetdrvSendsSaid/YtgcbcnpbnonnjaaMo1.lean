/- What the functions reckon, as plain words. No statement of the seat is proved here; no condition. -/
import Derived.Test.YtgcbcnpbnonnjaaTy
namespace Go.Proofs.Ytgcbcnpbnonnjaa

def Yc (arg0 : Int) (arg1 : UInt64) : Option Int :=
  br (arg0 == (0 : Int))
  (br (decide (arg1 ≥ (4294967296 : UInt64)))
  (some (2 : Int))
  (some arg0))
  (some arg0)

def seg_CheckL1B (l : List Seg) (L1 : Int → UInt64 → Int → Option Int) (m1 : Int) (m2 : UInt64) (x1 : Int) : Option Int :=
  br (decide (x1 < (len l)))
  (ob (ix l x1) fun s1 =>
  br (decide (s1.Len < (1 : UInt32)))
  (ob (Yc (2 : Int) m2) fun check1 =>
  some check1)
  (br (decide ((s1.Len.toUInt64 - (1 : UInt64)) > ((18446744073709551615 : UInt64) - s1.At)))
  (ob (Yc (2 : Int) m2) fun check2 =>
  some check2)
  (br (decide (x1 > (0 : Int)))
  (ob (ix l (wi (x1 - (1 : Int)))) fun s2 =>
  br (s2.Write)
  (br ((!s1.Write))
  (ob (Yc (2 : Int) m2) fun check3 =>
  some check3)
  (L1 m1 (m2 + s1.Len.toUInt64) (wi (x1 + (1 : Int)))))
  (L1 m1 (m2 + s1.Len.toUInt64) (wi (x1 + (1 : Int)))))
  (L1 m1 (m2 + s1.Len.toUInt64) (wi (x1 + (1 : Int)))))))
  (ob (Yc (0 : Int) m2) fun check4 =>
  some check4)

def YD (l : List Seg) : Nat → Int → UInt64 → Int → Option Int
  | 0, _, _, _ => none
  | nf + 1, m1, m2, x1 => seg_CheckL1B l (YD l nf) m1 m2 x1

def YZ (l : List Seg) : Option Int :=
  br (decide ((len l) > (64 : Int)))
  (some (3 : Int))
  (YD l fuel (0 : Int) (0 : UInt64) (0 : Int))

def seg_PartL1B (l : List Seg) (write : Bool) (L1 : (List Seg) → Int → Option (List Seg)) (out1 : List Seg) (x1 : Int) : Option (List Seg) :=
  br (decide (x1 < (len l)))
  (ob (ix l x1) fun s1 =>
  br (s1.Write == write)
  (chk (fits out1.length [s1].length 16) <|
  L1 (out1 ++ [s1]) (wi (x1 + (1 : Int))))
  (L1 out1 (wi (x1 + (1 : Int)))))
  (some out1)

def seg_PartL1 (l : List Seg) (write : Bool) : Nat → (List Seg) → Int → Option (List Seg)
  | 0, _, _ => none
  | nf + 1, out1, x1 => seg_PartL1B l write (seg_PartL1 l write nf) out1 x1

def seg_Part (l : List Seg) (write : Bool) : Option (List Seg) :=
  ob (YZ l) fun check1 =>
  br (check1 != (0 : Int))
  (some ([] : List Seg))
  (seg_PartL1 l write fuel [] (0 : Int))

def seg_TotalJ2 (x1 : Int) (L1 : UInt64 → UInt64 → Int → Option (UInt64 × UInt64)) (read2 : UInt64) (write2 : UInt64) : Option (UInt64 × UInt64) :=
  L1 read2 write2 (wi (x1 + (1 : Int)))

def YC (x1 : Int) (L1 : UInt64 → UInt64 → Int → Option (UInt64 × UInt64)) (read3 : UInt64) (write3 : UInt64) : Option (UInt64 × UInt64) :=
  seg_TotalJ2 x1 L1 read3 write3

def seg_TotalL1B (l : List Seg) (L1 : UInt64 → UInt64 → Int → Option (UInt64 × UInt64)) (read1 : UInt64) (write1 : UInt64) (x1 : Int) : Option (UInt64 × UInt64) :=
  br (decide (x1 < (len l)))
  (ob (ix l x1) fun s1 =>
  br (s1.Write)
  (YC x1 L1 read1 (write1 + s1.Len.toUInt64))
  (YC x1 L1 (read1 + s1.Len.toUInt64) write1))
  (some (read1, write1))

def XB (l : List Seg) : Nat → UInt64 → UInt64 → Int → Option (UInt64 × UInt64)
  | 0, _, _, _ => none
  | nf + 1, read1, write1, x1 => seg_TotalL1B l (XB l nf) read1 write1 x1

def seg_Total (l : List Seg) : Option (UInt64 × UInt64) :=
  ob (YZ l) fun check1 =>
  br (check1 != (0 : Int))
  (some ((0 : UInt64), (0 : UInt64)))
  (XB l fuel (0 : UInt64) (0 : UInt64) (0 : Int))

def ZH (sp0 : List Seg) : Option (List Seg) :=
  chk (fits ([] : List Seg).length sp0.length 16) <|
  some sp0

def seg_row_eatL1B  (L1 : (List Seg) → UInt64 → (List Seg) → Option ((List Seg) × (List Seg))) (m1 : List Seg) (n1 : UInt64) (out1 : List Seg) : Option ((List Seg) × (List Seg)) :=
  br (decide (n1 > (0 : UInt64)))
  (br (decide ((len m1) > (0 : Int)))
  (ob (ix m1 (0 : Int)) fun s1 =>
  chk (fits out1.length [(Seg.mk s1.At ((QU n1 s1.Len.toUInt64).toUInt32) s1.Write)].length 16) <|
  br (decide ((QU n1 s1.Len.toUInt64) < s1.Len.toUInt64))
  (chk (decide (0 ≤ (1 : Int) ∧ (1 : Int) ≤ (len m1) ∧ (len m1) ≤ len m1)) <|
  chk (fits [(Seg.mk (s1.At + (QU n1 s1.Len.toUInt64)) (s1.Len - ((QU n1 s1.Len.toUInt64).toUInt32)) s1.Write)].length (sub m1 (1 : Int) (len m1)).length 16) <|
  some (out1 ++ [(Seg.mk s1.At ((QU n1 s1.Len.toUInt64).toUInt32) s1.Write)], [(Seg.mk (s1.At + (QU n1 s1.Len.toUInt64)) (s1.Len - ((QU n1 s1.Len.toUInt64).toUInt32)) s1.Write)] ++ (sub m1 (1 : Int) (len m1))))
  (chk (decide (0 ≤ (1 : Int) ∧ (1 : Int) ≤ (len m1) ∧ (len m1) ≤ len m1)) <|
  L1 (sub m1 (1 : Int) (len m1)) (n1 - (QU n1 s1.Len.toUInt64)) (out1 ++ [(Seg.mk s1.At ((QU n1 s1.Len.toUInt64).toUInt32) s1.Write)])))
  (some (out1, m1)))
  (some (out1, m1))

def Ym  : Nat → (List Seg) → UInt64 → (List Seg) → Option ((List Seg) × (List Seg))
  | 0, _, _, _ => none
  | nf + 1, m1, n1, out1 => seg_row_eatL1B (Ym nf) m1 n1 out1

def seg_row_eat (rp0 : List Seg) (np1 : UInt64) : Option ((List Seg) × (List Seg)) :=
  Ym fuel rp0 np1 []

def seg_Cut (l : List Seg) (fromp1 : UInt64) (np2 : UInt64) : Option (List Seg) :=
  ob (YZ l) fun check1 =>
  br (check1 != (0 : Int))
  (some ([] : List Seg))
  (ob (ZH l) fun seg1 =>
  ob (seg_row_eat seg1 fromp1) fun eat1 =>
  ob (seg_row_eat eat1.2 np2) fun eat2 =>
  some eat2.1)

def XY (at1 : UInt64) (i1 : Int) (L1 : (List Seg) → Int → UInt64 → Int → Option (List Seg)) (y3 : Int) (cut1 : (List Seg)) (cut2 : (List Seg)) (more2 : Int) : Option (List Seg) :=
  L1 (cut1 ++ cut2) more2 (at1 + (u64 y3)) (wi (i1 + (1 : Int)))

def Km (cuts : List Int) (total1 : (UInt64 × UInt64)) (L1 : (List Seg) → Int → UInt64 → Int → Option (List Seg)) (l1 : List Seg) (more1 : Int) (at1 : UInt64) (i1 : Int) : Option (List Seg) :=
  br (decide (i1 < (len cuts)))
  (ob (ix cuts i1) fun y1 =>
  br (decide (y1 ≤ (0 : Int)))
  (L1 l1 more1 at1 (wi (i1 + (1 : Int))))
  (ob (ix cuts i1) fun y2 =>
  br (decide ((u64 y2) ≥ ((total1.1 + total1.2) - at1)))
  (L1 l1 more1 at1 (wi (i1 + (1 : Int))))
  (ob (ix cuts i1) fun y3 =>
  ob (seg_Cut l1 (0 : UInt64) (at1 + (u64 y3))) fun cut1 =>
  ob (seg_Cut l1 (at1 + (u64 y3)) (total1.1 + total1.2)) fun cut2 =>
  chk (fits cut1.length cut2.length 16) <|
  br (decide ((len (cut1 ++ cut2)) > (len l1)))
  (br (more1 == (0 : Int))
  (some l1)
  (XY at1 i1 L1 y3 cut1 cut2 (wi (more1 - (1 : Int)))))
  (XY at1 i1 L1 y3 cut1 cut2 more1))))
  (some l1)

def Xp (cuts : List Int) (total1 : (UInt64 × UInt64)) : Nat → (List Seg) → Int → UInt64 → Int → Option (List Seg)
  | 0, _, _, _, _ => none
  | nf + 1, l1, more1, at1, i1 => Km cuts total1 (Xp cuts total1 nf) l1 more1 at1 i1

def YP (l : List Seg) (cuts : List Int) (more : Int) : Option (List Seg) :=
  ob (seg_Total l) fun total1 =>
  Xp cuts total1 fuel l more (0 : UInt64) (0 : Int)

def blkdrv_Cut (l : List Seg) (cuts : List Int) : Option (List Seg) :=
  ob (YZ l) fun check1 =>
  br (check1 != (0 : Int))
  (some ([] : List Seg))
  (ob (seg_Part l false) fun part1 =>
  ob (seg_Part l true) fun part2 =>
  ob (YP part1 cuts (wi ((64 : Int) - (len l)))) fun split1 =>
  ob (YP part2 cuts (wi ((wi ((64 : Int) - (len split1))) - (len part2)))) fun split2 =>
  chk (fits split1.length split2.length 16) <|
  some (split1 ++ split2))

def netdrv_Post (atp0 : UInt64) (np1 : Int) (cuts : List Int) : Option (List Seg) :=
  br (decide (np1 < (1 : Int)))
  (some ([] : List Seg))
  (br (decide (np1 ≥ (4294967296 : Int)))
  (some ([] : List Seg))
  (ob (blkdrv_Cut [(Seg.mk atp0 (u32 np1) true)] cuts) fun cut1 =>
  some cut1))

def ref_Check05L1B (l : List Seg) (L1 : UInt64 → Int → Option Int) (sum1 : UInt64) (i1 : Int) : Option Int :=
  br (decide (i1 < (len l)))
  (ob (ix l i1) fun s1 =>
  br (s1.Len == (0 : UInt32))
  (some (2 : Int))
  (ob (ix l i1) fun s2 =>
  ob (ix l i1) fun s3 =>
  ob (ix l i1) fun s4 =>
  br (decide ((s2.At + (s3.Len.toUInt64 - (1 : UInt64))) < s4.At))
  (some (2 : Int))
  (br (decide (i1 > (0 : Int)))
  (ob (ix l (wi (i1 - (1 : Int)))) fun s5 =>
  br (s5.Write)
  (ob (ix l i1) fun s6 =>
  br ((!s6.Write))
  (some (2 : Int))
  (ob (ix l i1) fun s7 =>
  L1 (sum1 + s7.Len.toUInt64) (wi (i1 + (1 : Int)))))
  (ob (ix l i1) fun s8 =>
  L1 (sum1 + s8.Len.toUInt64) (wi (i1 + (1 : Int)))))
  (ob (ix l i1) fun s9 =>
  L1 (sum1 + s9.Len.toUInt64) (wi (i1 + (1 : Int)))))))
  (br (decide (sum1 ≥ (4294967296 : UInt64)))
  (some (2 : Int))
  (some (0 : Int)))

def XO (l : List Seg) : Nat → UInt64 → Int → Option Int
  | 0, _, _ => none
  | nf + 1, sum1, i1 => ref_Check05L1B l (XO l nf) sum1 i1

def ref_Check05 (l : List Seg) : Option Int :=
  br (decide ((len l) > (64 : Int)))
  (some (3 : Int))
  (XO l fuel (0 : UInt64) (0 : Int))

def gmem_CheckL1B (l : List Region) (L1 : UInt64 → Int → Option Int) (room1 : UInt64) (x1 : Int) : Option Int :=
  br (decide (x1 < (len l)))
  (ob (ix l x1) fun r1 =>
  br (decide (r1.Len < (1 : UInt64)))
  (some (2 : Int))
  (br (decide (r1.Len > room1))
  (some (2 : Int))
  (br (decide ((r1.Len - (1 : UInt64)) > ((18446744073709551615 : UInt64) - r1.At)))
  (some (2 : Int))
  (br (decide (x1 > (0 : Int)))
  (ob (ix l (wi (x1 - (1 : Int)))) fun r2 =>
  br (decide (r1.At ≤ r2.At))
  (some (2 : Int))
  (br (decide ((r1.At - r2.At) < r2.Len))
  (some (2 : Int))
  (L1 (room1 - r1.Len) (wi (x1 + (1 : Int))))))
  (L1 (room1 - r1.Len) (wi (x1 + (1 : Int))))))))
  (some (0 : Int))

def YN (l : List Region) : Nat → UInt64 → Int → Option Int
  | 0, _, _ => none
  | nf + 1, room1, x1 => gmem_CheckL1B l (YN l nf) room1 x1

def gmem_Check (l : List Region) : Option Int :=
  br (decide ((len l) > (16 : Int)))
  (some (2 : Int))
  (YN l fuel (1048576 : UInt64) (0 : Int))

def Zc (sp0 : List Region) : Option (List Region) :=
  chk (fits ([] : List Region).length sp0.length 16) <|
  some sp0

def gmem_NewL1B (l : List Region) (region1 : (List Region)) (L1 : (List (List UInt8)) → Int → Option ((Option gmem_Mem) × Int)) (rows1 : List (List UInt8)) (x1 : Int) : Option ((Option gmem_Mem) × Int) :=
  br (decide (x1 < (len l)))
  (ob (ix l x1) fun r1 =>
  chk (decide (0 ≤ (r1.Len.toNat : Int) ∧ (r1.Len.toNat : Int) ≤ (r1.Len.toNat : Int) ∧ (1 : Int) * (r1.Len.toNat : Int) ≤ 140737488355328)) <|
  ob (ix rows1 x1) fun row1 =>
  L1 (rows1.set (Int.toNat x1) (List.replicate (Int.toNat (r1.Len.toNat : Int)) (0 : UInt8))) (wi (x1 + (1 : Int))))
  (some ((some (gmem_Mem.mk region1 rows1)), (0 : Int)))

def gmem_NewL1 (l : List Region) (region1 : (List Region)) : Nat → (List (List UInt8)) → Int → Option ((Option gmem_Mem) × Int)
  | 0, _, _ => none
  | nf + 1, rows1, x1 => gmem_NewL1B l region1 (gmem_NewL1 l region1 nf) rows1 x1

def gmem_New (l : List Region) : Option ((Option gmem_Mem) × Int) :=
  ob (gmem_Check l) fun check1 =>
  br (check1 != (0 : Int))
  (some ((none : Option gmem_Mem), check1))
  (ob (Zc l) fun region1 =>
  chk (decide (0 ≤ (len l) ∧ (len l) ≤ (wi ((len l) + (1 : Int))) ∧ (24 : Int) * (wi ((len l) + (1 : Int))) ≤ 140737488355328)) <|
  gmem_NewL1 l region1 fuel (List.replicate (Int.toNat (len l)) [] : List (List UInt8)) (0 : Int))

def ref_Check02L1B (l : List Region) (L1 : UInt64 → Int → Option Int) (sum1 : UInt64) (i1 : Int) : Option Int :=
  br (decide (i1 < (len l)))
  (ob (ix l i1) fun r1 =>
  br (r1.Len == (0 : UInt64))
  (some (2 : Int))
  (ob (ix l i1) fun r2 =>
  br (decide (r2.Len > (1048576 : UInt64)))
  (some (2 : Int))
  (ob (ix l i1) fun r3 =>
  ob (ix l i1) fun r4 =>
  ob (ix l i1) fun r5 =>
  br (decide ((r3.At + (r4.Len - (1 : UInt64))) < r5.At))
  (some (2 : Int))
  (ob (ix l i1) fun r6 =>
  br (decide (i1 > (0 : Int)))
  (ob (ix l i1) fun r7 =>
  ob (ix l (wi (i1 - (1 : Int)))) fun r8 =>
  ob (ix l (wi (i1 - (1 : Int)))) fun r9 =>
  br (decide (r7.At ≤ (r8.At + (r9.Len - (1 : UInt64)))))
  (some (2 : Int))
  (L1 (sum1 + r6.Len) (wi (i1 + (1 : Int)))))
  (L1 (sum1 + r6.Len) (wi (i1 + (1 : Int))))))))
  (br (decide (sum1 > (1048576 : UInt64)))
  (some (2 : Int))
  (some (0 : Int)))

def Ys (l : List Region) : Nat → UInt64 → Int → Option Int
  | 0, _, _ => none
  | nf + 1, sum1, i1 => ref_Check02L1B l (Ys l nf) sum1 i1

def ref_Check02 (l : List Region) : Option Int :=
  br (decide ((len l) > (16 : Int)))
  (some (2 : Int))
  (Ys l fuel (0 : UInt64) (0 : Int))

def ref_New02L1B (l : List Region) (L1 : (List Region) → (List (List UInt8)) → Int → Option ((Option dumbwaiterref02_Mem) × Int)) (l1 : List Region) (rows1 : List (List UInt8)) (i1 : Int) : Option ((Option dumbwaiterref02_Mem) × Int) :=
  br (decide (i1 < (len l)))
  (ob (ix l i1) fun r1 =>
  chk (decide (0 ≤ (r1.Len.toNat : Int) ∧ (r1.Len.toNat : Int) ≤ (r1.Len.toNat : Int) ∧ (1 : Int) * (r1.Len.toNat : Int) ≤ 140737488355328)) <|
  chk (fits rows1.length 1 24) <|
  L1 l1 (rows1 ++ [List.replicate (Int.toNat (r1.Len.toNat : Int)) (0 : UInt8)]) (wi (i1 + (1 : Int))))
  (some ((some (dumbwaiterref02_Mem.mk l1 rows1)), (0 : Int)))

def ref_New02L1 (l : List Region) : Nat → (List Region) → (List (List UInt8)) → Int → Option ((Option dumbwaiterref02_Mem) × Int)
  | 0, _, _, _ => none
  | nf + 1, l1, rows1, i1 => ref_New02L1B l (ref_New02L1 l nf) l1 rows1 i1

def ref_New02 (l : List Region) : Option ((Option dumbwaiterref02_Mem) × Int) :=
  ob (ref_Check02 l) fun check1 =>
  br (check1 != (0 : Int))
  (some ((none : Option dumbwaiterref02_Mem), (2 : Int)))
  (chk (fits ([] : List Region).length l.length 16) <|
  ref_New02L1 l fuel l ([] : List (List UInt8)) (0 : Int))

def ZW (m : gmem_Mem) : Option Bool :=
  some true

def XT (ip0 : Int) (arg1 : gmem_Mem) (arg2 : UInt64) : Option Bool :=
  ob (ix arg1.l ip0) fun r1 =>
  ob (ix arg1.l ip0) fun r2 =>
  some (decide (((r1.Len - (1 : UInt64)) + r2.At) ≥ arg2))

def ZD (fc0 : gmem_Mem) (fc1 : UInt64) (L1 : Int → Int → Option Int) (i1 : Int) (j1 : Int) : Option Int :=
  br (decide (i1 < j1))
  (ob (XT (i64 (YS (u64 (wi (i1 + j1))) ((1 : UInt64).toNat))) fc0 fc1) fun bytes1 =>
  br ((!bytes1))
  (L1 (wi ((i64 (YS (u64 (wi (i1 + j1))) ((1 : UInt64).toNat))) + (1 : Int))) j1)
  (L1 i1 (i64 (YS (u64 (wi (i1 + j1))) ((1 : UInt64).toNat)))))
  (some i1)

def Ze (fc0 : gmem_Mem) (fc1 : UInt64) : Nat → Int → Int → Option Int
  | 0, _, _ => none
  | nf + 1, i1, j1 => ZD fc0 fc1 (Ze fc0 fc1 nf) i1 j1

def Zx (np0 : Int) (fc0 : gmem_Mem) (fc1 : UInt64) : Option Int :=
  Ze fc0 fc1 fuel (0 : Int) np0

def XE (m : gmem_Mem) (atp1 : UInt64) (np2 : UInt64) : Option (Option (Int × Int × Int)) :=
  br (decide (np2 < (1 : UInt64)))
  (some (none : Option (Int × Int × Int)))
  (ob (Zx (len m.l) m atp1) fun search1 =>
  br (search1 == (len m.l))
  (some (none : Option (Int × Int × Int)))
  (ob (ix m.l search1) fun r1 =>
  br (decide (atp1 < r1.At))
  (some (none : Option (Int × Int × Int)))
  (ob (ix m.l search1) fun r2 =>
  ob (ix m.l search1) fun r3 =>
  br (decide (np2 > (r3.Len - (atp1 - r2.At))))
  (some (none : Option (Int × Int × Int)))
  (ob (ix m.b search1) fun row1 =>
  chk (decide (0 ≤ ((atp1 - r2.At).toNat : Int) ∧ ((atp1 - r2.At).toNat : Int) ≤ (((atp1 - r2.At) + np2).toNat : Int) ∧ (((atp1 - r2.At) + np2).toNat : Int) ≤ len row1)) <|
  some (some (search1, ((atp1 - r2.At).toNat : Int), (((atp1 - r2.At) + np2).toNat : Int)))))))

def XF (m : gmem_Mem) (atp1 : UInt64) (arg2 : List UInt8) : Option (Int × (List (List UInt8))) :=
  ob (ZW m) fun made1 =>
  br ((len arg2) == (0 : Int))
  (some ((0 : Int), m.b))
  (ob (XE m atp1 (u64 (len arg2))) fun bytes1 =>
  onO bytes1
  (some ((5 : Int), m.b))
  (fun w1 =>
  ob (ix m.b w1.1) fun row1 =>
  chk (decide (0 ≤ w1.2.1 ∧ w1.2.1 ≤ w1.2.2 ∧ w1.2.2 ≤ len row1)) <|
  chk (decide (w1.2.1 < w1.2.2)) <|
  some ((0 : Int), m.b.set (Int.toNat w1.1) (copyAt row1 w1.2.1 w1.2.2 arg2))))

def Xq (f : Frame) : Option Int :=
  br (decide (f.Vlan < ((-1) : Int)))
  (some (2 : Int))
  (br (decide (f.Vlan > (4095 : Int)))
  (some (2 : Int))
  (br (f.Type_ == (33024 : UInt16))
  (some (2 : Int))
  (br (decide ((len f.Data) > (1500 : Int)))
  (some (2 : Int))
  (some (0 : Int)))))

def ZK (np1 : Int)  : Option (List UInt8) :=
  br (decide ((wi (np1 - (wi ((0 : Int) - (0 : Int))))) > (0 : Int)))
  (chk (decide (0 ≤ (wi (np1 - (wi ((0 : Int) - (0 : Int))))) ∧ (1 : Int) * (wi (np1 - (wi ((0 : Int) - (0 : Int))))) ≤ 140737488355328)) <|
  chk (decide (0 ≤ (0 : Int) ∧ (0 : Int) ≤ len (List.replicate (wi (np1 - (wi ((0 : Int) - (0 : Int))))).toNat (0 : UInt8)))) <|
  some ((List.replicate (wi (np1 - (wi ((0 : Int) - (0 : Int))))).toNat (0 : UInt8)).take (0 : Int).toNat))
  (some ([] : List UInt8))

def ZT (np1 : Int) : Option (List UInt8) :=
  chk (!(decide (np1 < (0 : Int)))) <|
  ZK np1

def ZM (x1 : Int) (L1 : Int → Int → Option (List UInt8)) (size2 : Int) : Option (List UInt8) :=
  L1 size2 (wi (x1 + (1 : Int)))

def ZL (size1 : Int) (x1 : Int) (L1 : Int → Int → Option (List UInt8)) (y1 : List UInt8)  : Option (List UInt8) :=
  ZM x1 L1 (wi (size1 + (len y1)))

def ZU (slices : List (List UInt8)) (L4 : (List UInt8) → Int → Option (List UInt8)) (newslice1 : List UInt8) (x2 : Int) : Option (List UInt8) :=
  br (decide (x2 < (len slices)))
  (ob (ix slices x2) fun y2 =>
  chk (fits newslice1.length y2.length 1) <|
  L4 (newslice1 ++ y2) (wi (x2 + (1 : Int))))
  (some newslice1)

def Zy (slices : List (List UInt8)) : Nat → (List UInt8) → Int → Option (List UInt8)
  | 0, _, _ => none
  | nf + 1, newslice1, x2 => ZU slices (Zy slices nf) newslice1 x2

def ZV (slices : List (List UInt8)) (L1 : Int → Int → Option (List UInt8)) (size1 : Int) (x1 : Int) : Option (List UInt8) :=
  br (decide (x1 < (len slices)))
  (ob (ix slices x1) fun y1 =>
  chk (!(decide ((wi (size1 + (len y1))) < (0 : Int)))) <|
  ZL size1 x1 L1 y1)
  (ob (ZT size1) fun growby1 =>
  Zy slices fuel growby1 (0 : Int))

def QV (slices : List (List UInt8)) : Nat → Int → Int → Option (List UInt8)
  | 0, _, _ => none
  | nf + 1, size1, x1 => ZV slices (QV slices nf) size1 x1

def Zk (slices : List (List UInt8)) : Option (List UInt8) :=
  QV slices fuel (0 : Int) (0 : Int)

def XP (f : Frame) (b2 : List UInt8) : Option ((List UInt8) × Int) :=
  chk (fits b2.length [(Zt f.Type_ ((8 : UInt64).toNat)).toUInt8, f.Type_.toUInt8].length 1) <|
  chk (fits (b2 ++ [(Zt f.Type_ ((8 : UInt64).toNat)).toUInt8, f.Type_.toUInt8]).length f.Data.length 1) <|
  some ((b2 ++ [(Zt f.Type_ ((8 : UInt64).toNat)).toUInt8, f.Type_.toUInt8]) ++ f.Data, (0 : Int))

def frame_Bytes (f : Frame) : Option ((List UInt8) × Int) :=
  ob (Xq f) fun check1 =>
  br (check1 != (0 : Int))
  (some (([] : List UInt8), check1))
  (ob (Zk [[f.Dst.a0, f.Dst.a1, f.Dst.a2, f.Dst.a3, f.Dst.a4, f.Dst.a5], [f.Src.a0, f.Src.a1, f.Src.a2, f.Src.a3, f.Src.a4, f.Src.a5]]) fun concat1 =>
  br (decide (f.Vlan ≥ (0 : Int)))
  (chk (fits concat1.length [(129 : UInt8), (0 : UInt8), u8 (shri f.Vlan ((8 : UInt64).toNat)), u8 f.Vlan].length 1) <|
  XP f (concat1 ++ [(129 : UInt8), (0 : UInt8), u8 (shri f.Vlan ((8 : UInt64).toNat)), u8 f.Vlan]))
  (XP f concat1))

def frame_HdrOfL1B (hp0 : Hdr) (L1 : (List UInt8) → Int → Option (List UInt8)) (l1 : List UInt8) (x1 : Int) : Option (List UInt8) :=
  br (decide (x1 < (3 : Int)))
  (ob (ix [hp0.Start, hp0.Off, hp0.Buffers] x1) fun u1 =>
  ob (ix l1 (wi ((6 : Int) + (wi ((2 : Int) * x1))))) fun y2 =>
  ob (ix (l1.set (wi ((6 : Int) + (wi ((2 : Int) * x1)))).toNat u1.toUInt8) (wi ((7 : Int) + (wi ((2 : Int) * x1))))) fun y3 =>
  L1 ((l1.set (wi ((6 : Int) + (wi ((2 : Int) * x1)))).toNat u1.toUInt8).set (wi ((7 : Int) + (wi ((2 : Int) * x1)))).toNat ((Zt u1 ((8 : UInt64).toNat)).toUInt8)) (wi (x1 + (1 : Int))))
  (some l1)

def frame_HdrOfL1 (hp0 : Hdr) : Nat → (List UInt8) → Int → Option (List UInt8)
  | 0, _, _ => none
  | nf + 1, l1, x1 => frame_HdrOfL1B hp0 (frame_HdrOfL1 hp0 nf) l1 x1

def frame_HdrOf (hp0 : Hdr) : Option (List UInt8) :=
  chk (decide (0 ≤ (12 : Int) ∧ (12 : Int) ≤ (12 : Int) ∧ (1 : Int) * (12 : Int) ≤ 140737488355328)) <|
  ob (ix (List.replicate (12 : Int).toNat (0 : UInt8)) (0 : Int)) fun y1 =>
  frame_HdrOfL1 hp0 fuel ((List.replicate (12 : Int).toNat (0 : UInt8)).set (0 : Int).toNat hp0.Flags) (0 : Int)

def Yg (m : gmem_Mem) (atp1 : UInt64) (cuts : List Int) (l1 : List UInt8) (m1 : Hdr) : Option ((List Seg) × Int × (List (List UInt8))) :=
  ob (frame_HdrOf m1) fun hdrof1 =>
  chk (fits hdrof1.length l1.length 1) <|
  ob (XF m atp1 (hdrof1 ++ l1)) fun write1 =>
  br (write1.1 != (0 : Int))
  (some (([] : List Seg), (5 : Int), write1.2))
  (ob (blkdrv_Cut [(Seg.mk atp1 (u32 (len (hdrof1 ++ l1))) false)] cuts) fun cut1 =>
  some (cut1, (0 : Int), write1.2))

def Yt (m : gmem_Mem) (atp1 : UInt64) (f : Frame) (sum : Int) (cuts : List Int) : Option ((List Seg) × Int × (List (List UInt8))) :=
  ob (frame_Bytes f) fun bytes1 =>
  br (bytes1.2 != (0 : Int))
  (some (([] : List Seg), bytes1.2, m.b))
  (br (decide (sum ≥ (0 : Int)))
  (br (decide (sum > (wi ((len f.Data) - (2 : Int)))))
  (some (([] : List Seg), (2 : Int), m.b))
  (Yg m atp1 cuts bytes1.1 (Hdr.mk (1 : UInt8) (u16 (wi ((len bytes1.1) - (len f.Data)))) (u16 sum) (0 : UInt16))))
  (Yg m atp1 cuts bytes1.1 (Hdr.mk (0 : UInt8) (0 : UInt16) (0 : UInt16) (0 : UInt16))))

def ref_Total05J2 (i1 : Int) (L1 : UInt64 → UInt64 → Int → Option (UInt64 × UInt64)) (read2 : UInt64) (write2 : UInt64) : Option (UInt64 × UInt64) :=
  L1 read2 write2 (wi (i1 + (1 : Int)))

def Kb (i1 : Int) (L1 : UInt64 → UInt64 → Int → Option (UInt64 × UInt64)) (read3 : UInt64) (write3 : UInt64) : Option (UInt64 × UInt64) :=
  ref_Total05J2 i1 L1 read3 write3

def ref_Total05L1B (l : List Seg) (L1 : UInt64 → UInt64 → Int → Option (UInt64 × UInt64)) (read1 : UInt64) (write1 : UInt64) (i1 : Int) : Option (UInt64 × UInt64) :=
  br (decide (i1 < (len l)))
  (ob (ref_Check05 l) fun check1 =>
  br (check1 == (0 : Int))
  (ob (ix l i1) fun s1 =>
  br (s1.Write)
  (ob (ix l i1) fun s2 =>
  Kb i1 L1 read1 (write1 + s2.Len.toUInt64))
  (ob (ix l i1) fun s3 =>
  Kb i1 L1 (read1 + s3.Len.toUInt64) write1))
  (some (read1, write1)))
  (some (read1, write1))

def Xy (l : List Seg) : Nat → UInt64 → UInt64 → Int → Option (UInt64 × UInt64)
  | 0, _, _, _ => none
  | nf + 1, read1, write1, i1 => ref_Total05L1B l (Xy l nf) read1 write1 i1

def ref_Total05 (l : List Seg) : Option (UInt64 × UInt64) :=
  Xy l fuel (0 : UInt64) (0 : UInt64) (0 : Int)

def Yx (set : UInt64) (bit : Int) : Option Bool :=
  br (decide (bit ≥ (0 : Int)))
  (br (decide (bit < (64 : Int)))
  (some (((YS set ((u64 bit).toNat)) % (2 : UInt64)) == (1 : UInt64)))
  (some false))
  (some false)

def ref_Needs25L1B (feats : UInt64) (bufs : List (List Seg)) (np2 : Int) (L1 : UInt64 → Int → Option (Int × Bool)) (sum1 : UInt64) (i1 : Int) : Option (Int × Bool) :=
  br (decide (i1 < (len bufs)))
  (ob (ix bufs i1) fun y1 =>
  ob (ref_Total05 y1) fun total1 =>
  br (total1.2 == (0 : UInt64))
  (some ((0 : Int), false))
  (br (i1 == (0 : Int))
  (br (decide (total1.2 < (12 : UInt64)))
  (some ((0 : Int), false))
  (br (decide ((sum1 + total1.2) ≥ (u64 (maxi np2 (12 : Int)))))
  (some (wi (i1 + (1 : Int)), true))
  (ob (Yx feats (15 : Int)) fun has1 =>
  br ((!has1))
  (some ((0 : Int), false))
  (L1 (sum1 + total1.2) (wi (i1 + (1 : Int)))))))
  (br (decide ((sum1 + total1.2) ≥ (u64 (maxi np2 (12 : Int)))))
  (some (wi (i1 + (1 : Int)), true))
  (ob (Yx feats (15 : Int)) fun has2 =>
  br ((!has2))
  (some ((0 : Int), false))
  (L1 (sum1 + total1.2) (wi (i1 + (1 : Int))))))))
  (some ((0 : Int), false))

def ref_Needs25L1 (feats : UInt64) (bufs : List (List Seg)) (np2 : Int) : Nat → UInt64 → Int → Option (Int × Bool)
  | 0, _, _ => none
  | nf + 1, sum1, i1 => ref_Needs25L1B feats bufs np2 (ref_Needs25L1 feats bufs np2 nf) sum1 i1

def ref_Needs25 (feats : UInt64) (bufs : List (List Seg)) (np2 : Int) : Option (Int × Bool) :=
  ref_Needs25L1 feats bufs np2 fuel (0 : UInt64) (0 : Int)

def Yp (m : dumbwaiterref02_Mem) (atp1 : UInt64) (np2 : UInt64) (L1 : Int → Option (Int × Int)) (i1 : Int) : Option (Int × Int) :=
  br (decide (i1 < (len m.L)))
  (ob (ix m.L i1) fun r1 =>
  br (decide (np2 ≥ (1 : UInt64)))
  (br (decide (atp1 ≥ r1.At))
  (br (decide (np2 ≤ r1.Len))
  (br (decide ((atp1 - r1.At) ≤ (r1.Len - np2)))
  (some (i1, i64 (atp1 - r1.At)))
  (L1 (wi (i1 + (1 : Int)))))
  (L1 (wi (i1 + (1 : Int)))))
  (L1 (wi (i1 + (1 : Int)))))
  (L1 (wi (i1 + (1 : Int)))))
  (some (((-1) : Int), (0 : Int)))

def Xm (m : dumbwaiterref02_Mem) (atp1 : UInt64) (np2 : UInt64) : Nat → Int → Option (Int × Int)
  | 0, _ => none
  | nf + 1, i1 => Yp m atp1 np2 (Xm m atp1 np2 nf) i1

def XC (m : dumbwaiterref02_Mem) (atp1 : UInt64) (np2 : UInt64) : Option (Int × Int) :=
  Xm m atp1 np2 fuel (0 : Int)

def Kf (m : dumbwaiterref02_Mem) (atp1 : UInt64) (np2 : UInt64) : Option Bool :=
  ob (XC m atp1 np2) fun ZG =>
  some (decide (ZG.1 ≥ (0 : Int)))

def ref_In05L1B (m : dumbwaiterref02_Mem) (l : List Seg) (L1 : Int → Int → Option Int) (e1 : Int) (i1 : Int) : Option Int :=
  br (decide (i1 < (len l)))
  (br (e1 == (0 : Int))
  (ob (ix l i1) fun s1 =>
  ob (ix l i1) fun s2 =>
  ob (Kf m s1.At s2.Len.toUInt64) fun has1 =>
  br ((!has1))
  (L1 (5 : Int) (wi (i1 + (1 : Int))))
  (L1 e1 (wi (i1 + (1 : Int)))))
  (some e1))
  (some e1)

def Yr (m : dumbwaiterref02_Mem) (l : List Seg) : Nat → Int → Int → Option Int
  | 0, _, _ => none
  | nf + 1, e1, i1 => ref_In05L1B m l (Yr m l nf) e1 i1

def ref_In05 (m : dumbwaiterref02_Mem) (l : List Seg) : Option Int :=
  ob (ref_Check05 l) fun check1 =>
  Yr m l fuel check1 (0 : Int)

def Xc (m : dumbwaiterref02_Mem) (atp1 : UInt64) (b : List UInt8) : Option (Int × (List (List UInt8))) :=
  br ((len b) == (0 : Int))
  (some ((0 : Int), m.B))
  (ob (XC m atp1 (u64 (len b))) fun ZG =>
  br (decide (ZG.1 < (0 : Int)))
  (some ((5 : Int), m.B))
  (ob (ix m.B ZG.1) fun row1 =>
  chk (decide (0 ≤ ZG.2 ∧ ZG.2 ≤ (len row1) ∧ (len row1) ≤ len row1)) <|
  some ((0 : Int), m.B.set (Int.toNat ZG.1) (copyAt row1 ZG.2 (len row1) b))))

def Kc (i1 : Int) (L1 : (List (List UInt8)) → Int → Int → Option (Int × Int × (List (List UInt8)))) (rows2 : List (List UInt8)) (n2 : Int) : Option (Int × Int × (List (List UInt8))) :=
  L1 rows2 n2 (wi (i1 + (1 : Int)))

def Yd (i1 : Int) (L1 : (List (List UInt8)) → Int → Int → Option (Int × Int × (List (List UInt8)))) (rows3 : List (List UInt8)) (n3 : Int) : Option (Int × Int × (List (List UInt8))) :=
  Kc i1 L1 rows3 n3

def ref_Scatter05L1B (m : dumbwaiterref02_Mem) (l : List Seg) (b : List UInt8) (L1 : (List (List UInt8)) → Int → Int → Option (Int × Int × (List (List UInt8)))) (rows1 : List (List UInt8)) (n1 : Int) (i1 : Int) : Option (Int × Int × (List (List UInt8))) :=
  br (decide (i1 < (len l)))
  (ob (ix l i1) fun s1 =>
  br (s1.Write)
  (ob (ix l i1) fun s2 =>
  ob (ix l i1) fun s3 =>
  chk (decide (0 ≤ n1 ∧ n1 ≤ (wi (n1 + (mini (wi ((len b) - n1)) (i32 s2.Len)))) ∧ (wi (n1 + (mini (wi ((len b) - n1)) (i32 s2.Len)))) ≤ len b)) <|
  ob (Xc (dumbwaiterref02_Mem.mk m.L rows1) s3.At (sub b n1 (wi (n1 + (mini (wi ((len b) - n1)) (i32 s2.Len)))))) fun write1 =>
  Yd i1 L1 write1.2 (wi (n1 + (mini (wi ((len b) - n1)) (i32 s2.Len)))))
  (Yd i1 L1 rows1 n1))
  (some (n1, (0 : Int), rows1))

def Xb (m : dumbwaiterref02_Mem) (l : List Seg) (b : List UInt8) : Nat → (List (List UInt8)) → Int → Int → Option (Int × Int × (List (List UInt8)))
  | 0, _, _, _ => none
  | nf + 1, rows1, n1, i1 => ref_Scatter05L1B m l b (Xb m l b nf) rows1 n1 i1

def ref_Scatter05 (m : dumbwaiterref02_Mem) (l : List Seg) (b : List UInt8) : Option (Int × Int × (List (List UInt8))) :=
  ob (ref_In05 m l) fun in1 =>
  br (in1 != (0 : Int))
  (some ((0 : Int), in1, m.B))
  (Xb m l b fuel m.B (0 : Int) (0 : Int))

def Yf (f : Frame) : Option Int :=
  br (decide (f.Vlan < ((-1) : Int)))
  (some (2 : Int))
  (br (decide (f.Vlan > (4095 : Int)))
  (some (2 : Int))
  (br (f.Type_ == (33024 : UInt16))
  (some (2 : Int))
  (br (decide ((len f.Data) > (1500 : Int)))
  (some (2 : Int))
  (some (0 : Int)))))

def Kj  (Dst3 : A6 UInt8) (Src3 : A6 UInt8) (Vlan3 : Int) (Type3 : UInt16) (Data3 : List UInt8) (b4 : List UInt8) : Option ((List UInt8) × Int) :=
  chk (fits b4.length [(Zt Type3 ((8 : UInt64).toNat)).toUInt8, Type3.toUInt8].length 1) <|
  chk (fits (b4 ++ [(Zt Type3 ((8 : UInt64).toNat)).toUInt8, Type3.toUInt8]).length Data3.length 1) <|
  some ((b4 ++ [(Zt Type3 ((8 : UInt64).toNat)).toUInt8, Type3.toUInt8]) ++ Data3, (0 : Int))

def ref_Bytes23L2B  (L2 : (A6 UInt8) → (A6 UInt8) → Int → UInt16 → (List UInt8) → (List UInt8) → Int → Option ((List UInt8) × Int)) (Dst2 : A6 UInt8) (Src2 : A6 UInt8) (Vlan2 : Int) (Type2 : UInt16) (Data2 : List UInt8) (b3 : List UInt8) (i2 : Int) : Option ((List UInt8) × Int) :=
  br (decide (i2 < (6 : Int)))
  (chk (decide (0 ≤ i2 ∧ i2 < (6 : Int))) <|
  ob (ix [Src2.a0, Src2.a1, Src2.a2, Src2.a3, Src2.a4, Src2.a5] i2) fun u2 =>
  chk (fits b3.length [u2].length 1) <|
  L2 Dst2 Src2 Vlan2 Type2 Data2 (b3 ++ [u2]) (wi (i2 + (1 : Int))))
  (br (decide (Vlan2 ≥ (0 : Int)))
  (chk (fits b3.length [(129 : UInt8), (0 : UInt8), u8 (shri Vlan2 ((8 : UInt64).toNat)), u8 Vlan2].length 1) <|
  Kj Dst2 Src2 Vlan2 Type2 Data2 (b3 ++ [(129 : UInt8), (0 : UInt8), u8 (shri Vlan2 ((8 : UInt64).toNat)), u8 Vlan2]))
  (Kj Dst2 Src2 Vlan2 Type2 Data2 b3))

def ref_Bytes23L2  : Nat → (A6 UInt8) → (A6 UInt8) → Int → UInt16 → (List UInt8) → (List UInt8) → Int → Option ((List UInt8) × Int)
  | 0, _, _, _, _, _, _, _ => none
  | nf + 1, Dst2, Src2, Vlan2, Type2, Data2, b3, i2 => ref_Bytes23L2B (ref_Bytes23L2 nf) Dst2 Src2 Vlan2 Type2 Data2 b3 i2

def ref_Bytes23L1B  (L1 : (A6 UInt8) → (A6 UInt8) → Int → UInt16 → (List UInt8) → (List UInt8) → Int → Option ((List UInt8) × Int)) (Dst1 : A6 UInt8) (Src1 : A6 UInt8) (Vlan1 : Int) (Type1 : UInt16) (Data1 : List UInt8) (b2 : List UInt8) (i1 : Int) : Option ((List UInt8) × Int) :=
  br (decide (i1 < (6 : Int)))
  (chk (decide (0 ≤ i1 ∧ i1 < (6 : Int))) <|
  ob (ix [Dst1.a0, Dst1.a1, Dst1.a2, Dst1.a3, Dst1.a4, Dst1.a5] i1) fun u1 =>
  chk (fits b2.length [u1].length 1) <|
  L1 Dst1 Src1 Vlan1 Type1 Data1 (b2 ++ [u1]) (wi (i1 + (1 : Int))))
  (ref_Bytes23L2 fuel Dst1 Src1 Vlan1 Type1 Data1 b2 (0 : Int))

def ref_Bytes23L1  : Nat → (A6 UInt8) → (A6 UInt8) → Int → UInt16 → (List UInt8) → (List UInt8) → Int → Option ((List UInt8) × Int)
  | 0, _, _, _, _, _, _, _ => none
  | nf + 1, Dst1, Src1, Vlan1, Type1, Data1, b2, i1 => ref_Bytes23L1B (ref_Bytes23L1 nf) Dst1 Src1 Vlan1 Type1 Data1 b2 i1

def ref_Bytes23 (f : Frame) : Option ((List UInt8) × Int) :=
  ob (Yf f) fun check1 =>
  br (check1 != (0 : Int))
  (some (([] : List UInt8), check1))
  (ref_Bytes23L1 fuel f.Dst f.Src f.Vlan f.Type_ f.Data [] (0 : Int))

def ref_HdrOf23 (hp0 : Hdr) : Option (List UInt8) :=
  some [hp0.Flags, (0 : UInt8), (0 : UInt8), (0 : UInt8), (0 : UInt8), (0 : UInt8), hp0.Start.toUInt8, (Zt hp0.Start ((8 : UInt64).toNat)).toUInt8, hp0.Off.toUInt8, (Zt hp0.Off ((8 : UInt64).toNat)).toUInt8, hp0.Buffers.toUInt8, (Zt hp0.Buffers ((8 : UInt64).toNat)).toUInt8]

def ref_Deliver25L3B (m : dumbwaiterref02_Mem) (bufs : List (List Seg)) (needs1 : (Int × Bool)) (L3 : (List (List UInt8)) → (List UInt8) → (List UInt32) → Int → Option ((List UInt32) × Int × (List (List UInt8)))) (rows1 : List (List UInt8)) (b3 : List UInt8) (out1 : List UInt32) (i2 : Int) : Option ((List UInt32) × Int × (List (List UInt8))) :=
  br (decide (i2 < needs1.1))
  (ob (ix bufs i2) fun y2 =>
  ob (ref_Scatter05 (dumbwaiterref02_Mem.mk m.L rows1) y2 b3) fun scatte1 =>
  chk (fits out1.length [u32 scatte1.1].length 4) <|
  chk (decide (0 ≤ scatte1.1 ∧ scatte1.1 ≤ (len b3) ∧ (len b3) ≤ len b3)) <|
  L3 scatte1.2.2 (sub b3 scatte1.1 (len b3)) (out1 ++ [u32 scatte1.1]) (wi (i2 + (1 : Int))))
  (some (out1, (0 : Int), rows1))

def Kh (m : dumbwaiterref02_Mem) (bufs : List (List Seg)) (needs1 : (Int × Bool)) : Nat → (List (List UInt8)) → (List UInt8) → (List UInt32) → Int → Option ((List UInt32) × Int × (List (List UInt8)))
  | 0, _, _, _, _ => none
  | nf + 1, rows1, b3, out1, i2 => ref_Deliver25L3B m bufs needs1 (Kh m bufs needs1 nf) rows1 b3 out1 i2

def Ye (m : dumbwaiterref02_Mem) (bufs : List (List Seg)) (bytes1 : ((List UInt8) × Int)) (needs1 : (Int × Bool)) (m1 : Hdr) : Option ((List UInt32) × Int × (List (List UInt8))) :=
  ob (ref_HdrOf23 m1) fun hdrof1 =>
  chk (fits hdrof1.length bytes1.1.length 1) <|
  Kh m bufs needs1 fuel m.B (hdrof1 ++ bytes1.1) [] (0 : Int)

def ref_Deliver25L1B (m : dumbwaiterref02_Mem) (feats : UInt64) (bufs : List (List Seg)) (bytes1 : ((List UInt8) × Int)) (needs1 : (Int × Bool)) (L1 : Int → Option ((List UInt32) × Int × (List (List UInt8)))) (i1 : Int) : Option ((List UInt32) × Int × (List (List UInt8))) :=
  br (decide (i1 < needs1.1))
  (ob (ix bufs i1) fun y1 =>
  ob (ref_In05 m y1) fun in1 =>
  br (in1 != (0 : Int))
  (some (([] : List UInt32), in1, m.B))
  (L1 (wi (i1 + (1 : Int)))))
  (ob (Yx feats (1 : Int)) fun has1 =>
  br (has1)
  (Ye m bufs bytes1 needs1 (Hdr.mk (2 : UInt8) (0 : UInt16) (0 : UInt16) (u16 needs1.1)))
  (Ye m bufs bytes1 needs1 (Hdr.mk (0 : UInt8) (0 : UInt16) (0 : UInt16) (u16 needs1.1))))

def Ki (m : dumbwaiterref02_Mem) (feats : UInt64) (bufs : List (List Seg)) (bytes1 : ((List UInt8) × Int)) (needs1 : (Int × Bool)) : Nat → Int → Option ((List UInt32) × Int × (List (List UInt8)))
  | 0, _ => none
  | nf + 1, i1 => ref_Deliver25L1B m feats bufs bytes1 needs1 (Ki m feats bufs bytes1 needs1 nf) i1

def ref_Deliver25 (m : dumbwaiterref02_Mem) (feats : UInt64) (bufs : List (List Seg)) (f : Frame) : Option ((List UInt32) × Int × (List (List UInt8))) :=
  ob (ref_Bytes23 f) fun bytes1 =>
  br (bytes1.2 != (0 : Int))
  (some (([] : List UInt32), bytes1.2, m.B))
  (ob (ref_Needs25 feats bufs (wi ((12 : Int) + (len bytes1.1)))) fun needs1 =>
  br ((!needs1.2))
  (some (([] : List UInt32), (7 : Int), m.B))
  (Ki m feats bufs bytes1 needs1 fuel (0 : Int)))

def Ke (m : dumbwaiterref02_Mem) (L1 : (List UInt8) → Int → Option (List UInt8)) (out1 : List UInt8) (i1 : Int) : Option (List UInt8) :=
  br (decide (i1 < (len m.B)))
  (ob (ix m.B i1) fun row1 =>
  chk (fits out1.length row1.length 1) <|
  L1 (out1 ++ row1) (wi (i1 + (1 : Int))))
  (some out1)

def Yq (m : dumbwaiterref02_Mem) : Nat → (List UInt8) → Int → Option (List UInt8)
  | 0, _, _ => none
  | nf + 1, out1, i1 => Ke m (Yq m nf) out1 i1

def ref_Mem_Image02 (m : dumbwaiterref02_Mem) : Option (List UInt8) :=
  Yq m fuel [] (0 : Int)

def netdrv_from (m : gmem_Mem) (bufs : List (List Seg)) (written : List UInt32) : Option (Option Clo66) :=
  some (some (Clo66.mk bufs written))

def XK (ip0 : Int) (arg1 : List UInt8) : Option UInt16 :=
  ob (ix arg1 ip0) fun y1 =>
  ob (ix arg1 (wi (ip0 + (1 : Int)))) fun y2 =>
  some (y1.toUInt16 ||| (Zm y2.toUInt16 ((8 : UInt64).toNat)))

def Xo (b : List UInt8) : Option (Hdr × Int) :=
  br (decide ((len b) < (12 : Int)))
  (some ((Hdr.mk (0 : UInt8) (0 : UInt16) (0 : UInt16) (0 : UInt16)), (4 : Int)))
  (ob (ix b (0 : Int)) fun y1 =>
  ob (XK (6 : Int) b) fun readhd1 =>
  ob (XK (8 : Int) b) fun readhd2 =>
  ob (XK (10 : Int) b) fun readhd3 =>
  some ((Hdr.mk y1 readhd1 readhd2 readhd3), (0 : Int)))

def YO (b : List UInt8) : Option UInt16 :=
  ob (ix b (0 : Int)) fun y1 =>
  ob (ix b (1 : Int)) fun y2 =>
  some ((Zm y1.toUInt16 ((8 : UInt64).toNat)) ||| y2.toUInt16)

def Zn (sp0 : List UInt8) : Option (List UInt8) :=
  chk (fits ([] : List UInt8).length sp0.length 1) <|
  some sp0

def Yh  (Dst1 : A6 UInt8) (Src1 : A6 UInt8) (Vlan1 : Int) (Type1 : UInt16) (Data1 : List UInt8) (Dst2 : A6 UInt8) (Src2 : A6 UInt8) (Vlan2 : Int) (Type2 : UInt16) (Data2 : List UInt8) (rest1 : List UInt8) : Option (Frame × Int) :=
  ob (YO rest1) fun word2 =>
  chk (decide (0 ≤ (2 : Int) ∧ (2 : Int) ≤ (len rest1) ∧ (len rest1) ≤ len rest1)) <|
  ob (Zn (sub rest1 (2 : Int) (len rest1))) fun cloneb1 =>
  ob (Xq (Frame.mk Dst2 Src2 Vlan2 word2 cloneb1)) fun check1 =>
  br (check1 != (0 : Int))
  (some ((Frame.mk (A6.mk (0 : UInt8) (0 : UInt8) (0 : UInt8) (0 : UInt8) (0 : UInt8) (0 : UInt8)) (A6.mk (0 : UInt8) (0 : UInt8) (0 : UInt8) (0 : UInt8) (0 : UInt8) (0 : UInt8)) (0 : Int) (0 : UInt16) ([] : List UInt8)), (4 : Int)))
  (some ((Frame.mk Dst2 Src2 Vlan2 word2 cloneb1), (0 : Int)))

def XX (b : List UInt8) : Option (Frame × Int) :=
  br (decide ((len b) < (14 : Int)))
  (some ((Frame.mk (A6.mk (0 : UInt8) (0 : UInt8) (0 : UInt8) (0 : UInt8) (0 : UInt8) (0 : UInt8)) (A6.mk (0 : UInt8) (0 : UInt8) (0 : UInt8) (0 : UInt8) (0 : UInt8) (0 : UInt8)) (0 : Int) (0 : UInt16) ([] : List UInt8)), (4 : Int)))
  (chk (decide (0 ≤ (0 : Int) ∧ (0 : Int) ≤ (6 : Int) ∧ (6 : Int) ≤ len b)) <|
  chk (Nat.ble 6 (sub b (0 : Int) (6 : Int)).length) <|
  ob (A6.ofL ((sub b (0 : Int) (6 : Int)).take 6)) fun a1 =>
  chk (decide (0 ≤ (6 : Int) ∧ (6 : Int) ≤ (12 : Int) ∧ (12 : Int) ≤ len b)) <|
  chk (Nat.ble 6 (sub b (6 : Int) (12 : Int)).length) <|
  ob (A6.ofL ((sub b (6 : Int) (12 : Int)).take 6)) fun a2 =>
  chk (decide (0 ≤ (12 : Int) ∧ (12 : Int) ≤ (len b) ∧ (len b) ≤ len b)) <|
  ob (YO (sub b (12 : Int) (len b))) fun word1 =>
  br (word1 == (33024 : UInt16))
  (br (decide ((len (sub b (12 : Int) (len b))) < (6 : Int)))
  (some ((Frame.mk (A6.mk (0 : UInt8) (0 : UInt8) (0 : UInt8) (0 : UInt8) (0 : UInt8) (0 : UInt8)) (A6.mk (0 : UInt8) (0 : UInt8) (0 : UInt8) (0 : UInt8) (0 : UInt8) (0 : UInt8)) (0 : Int) (0 : UInt16) ([] : List UInt8)), (4 : Int)))
  (chk (decide (0 ≤ (2 : Int) ∧ (2 : Int) ≤ (len (sub b (12 : Int) (len b))) ∧ (len (sub b (12 : Int) (len b))) ≤ len (sub b (12 : Int) (len b)))) <|
  ob (YO (sub (sub b (12 : Int) (len b)) (2 : Int) (len (sub b (12 : Int) (len b))))) fun word3 =>
  chk (decide (0 ≤ (4 : Int) ∧ (4 : Int) ≤ (len (sub b (12 : Int) (len b))) ∧ (len (sub b (12 : Int) (len b))) ≤ len (sub b (12 : Int) (len b)))) <|
  Yh (A6.mk (0 : UInt8) (0 : UInt8) (0 : UInt8) (0 : UInt8) (0 : UInt8) (0 : UInt8)) (A6.mk (0 : UInt8) (0 : UInt8) (0 : UInt8) (0 : UInt8) (0 : UInt8) (0 : UInt8)) (0 : Int) (0 : UInt16) ([] : List UInt8) a1 a2 (i16 word3) (0 : UInt16) ([] : List UInt8) (sub (sub b (12 : Int) (len b)) (4 : Int) (len (sub b (12 : Int) (len b))))))
  (Yh (A6.mk (0 : UInt8) (0 : UInt8) (0 : UInt8) (0 : UInt8) (0 : UInt8) (0 : UInt8)) (A6.mk (0 : UInt8) (0 : UInt8) (0 : UInt8) (0 : UInt8) (0 : UInt8) (0 : UInt8)) (0 : Int) (0 : UInt16) ([] : List UInt8) a1 a2 ((-1) : Int) (0 : UInt16) ([] : List UInt8) (sub b (12 : Int) (len b))))

def XA (m : gmem_Mem) (atp1 : UInt64) (np2 : Int) : Option ((List UInt8) × Int) :=
  ob (ZW m) fun made1 =>
  br (decide (np2 < (0 : Int)))
  (some (([] : List UInt8), (2 : Int)))
  (br (np2 == (0 : Int))
  (some (([] : List UInt8), (0 : Int)))
  (ob (XE m atp1 (u64 np2)) fun bytes1 =>
  onO bytes1
  (some (([] : List UInt8), (5 : Int)))
  (fun w1 =>
  ob (ix m.b w1.1) fun row1 =>
  chk (decide (0 ≤ w1.2.1 ∧ w1.2.1 ≤ w1.2.2 ∧ w1.2.2 ≤ len row1)) <|
  chk (decide (w1.2.1 < w1.2.2)) <|
  ob (Zn (sub row1 w1.2.1 w1.2.2)) fun cloneb1 =>
  some (cloneb1, (0 : Int)))))

def gmem_Mem_Has (m : gmem_Mem) (atp1 : UInt64) (np2 : UInt64) : Option Bool :=
  ob (ZW m) fun made1 =>
  ob (XE m atp1 np2) fun bytes1 =>
  onO bytes1
  (some false)
  (fun w1 =>
  ob (ix m.b w1.1) fun row1 =>
  chk (decide (0 ≤ w1.2.1 ∧ w1.2.1 ≤ w1.2.2 ∧ w1.2.2 ≤ len row1)) <|
  chk (decide (w1.2.1 < w1.2.2)) <|
  some true)

def seg_InL1B (m : gmem_Mem) (l : List Seg) (L1 : Int → Option Int) (x1 : Int) : Option Int :=
  br (decide (x1 < (len l)))
  (ob (ix l x1) fun s1 =>
  ob (gmem_Mem_Has m s1.At s1.Len.toUInt64) fun has1 =>
  br ((!has1))
  (some (5 : Int))
  (L1 (wi (x1 + (1 : Int)))))
  (some (0 : Int))

def seg_InL1 (m : gmem_Mem) (l : List Seg) : Nat → Int → Option Int
  | 0, _ => none
  | nf + 1, x1 => seg_InL1B m l (seg_InL1 m l nf) x1

def seg_In (m : gmem_Mem) (l : List Seg) : Option Int :=
  ob (XA m (0 : UInt64) (0 : Int)) fun read1 =>
  br (read1.2 != (0 : Int))
  (some read1.2)
  (ob (YZ l) fun check1 =>
  br (check1 != (0 : Int))
  (some check1)
  (seg_InL1 m l fuel (0 : Int)))

def seg_GatherL1B (m : gmem_Mem) (part1 : (List Seg)) (L1 : (List (List UInt8)) → (List Seg) → Int → Option ((List UInt8) × Int)) (parts1 : List (List UInt8)) (l1 : List Seg) (x1 : Int) : Option ((List UInt8) × Int) :=
  br (decide (x1 < (len part1)))
  (ob (ix l1 x1) fun s1 =>
  ob (XA m s1.At (i32 s1.Len)) fun read1 =>
  br (read1.2 != (0 : Int))
  (some (([] : List UInt8), read1.2))
  (chk (fits parts1.length [read1.1].length 24) <|
  L1 (parts1 ++ [read1.1]) l1 (wi (x1 + (1 : Int)))))
  (ob (Zk parts1) fun concat1 =>
  some (concat1, (0 : Int)))

def YJ (m : gmem_Mem) (part1 : (List Seg)) : Nat → (List (List UInt8)) → (List Seg) → Int → Option ((List UInt8) × Int)
  | 0, _, _, _ => none
  | nf + 1, parts1, l1, x1 => seg_GatherL1B m part1 (YJ m part1 nf) parts1 l1 x1

def seg_Gather (m : gmem_Mem) (l : List Seg) : Option ((List UInt8) × Int) :=
  ob (seg_In m l) fun in1 =>
  br (in1 != (0 : Int))
  (some (([] : List UInt8), in1))
  (ob (seg_Part l false) fun part1 =>
  YJ m part1 fuel [] part1 (0 : Int))

def YF (m : gmem_Mem) (np2 : UInt32) (part1 : (List Seg)) (L1 : (List Seg) → Int → Option ((List UInt8) × Int)) (l1 : List Seg) (x1 : Int) : Option ((List UInt8) × Int) :=
  br (decide (x1 < (len part1)))
  (ob (ix l1 x1) fun s1 =>
  L1 (l1.set x1.toNat (Seg.mk s1.At s1.Len false)) (wi (x1 + (1 : Int))))
  (ob (seg_Cut l1 (0 : UInt64) np2.toUInt64) fun cut1 =>
  ob (seg_Gather m cut1) fun Zu =>
  some (Zu.1, Zu.2))

def Ya (m : gmem_Mem) (np2 : UInt32) (part1 : (List Seg)) : Nat → (List Seg) → Int → Option ((List UInt8) × Int)
  | 0, _, _ => none
  | nf + 1, l1, x1 => YF m np2 part1 (Ya m np2 part1 nf) l1 x1

def netdrv_writtenOf (m : gmem_Mem) (l : List Seg) (np2 : UInt32) : Option ((List UInt8) × Int) :=
  ob (seg_In m l) fun in1 =>
  br (in1 != (0 : Int))
  (some (([] : List UInt8), in1))
  (ob (seg_Part l true) fun part1 =>
  ob (seg_Total part1) fun total1 =>
  br (decide (np2.toUInt64 > total1.2))
  (some (([] : List UInt8), (4 : Int)))
  (Ya m np2 part1 fuel part1 (0 : Int)))

def netdrv_from_1 (arg0 : List (List Seg)) (arg1 : gmem_Mem) (arg2 : List UInt32) : Option ((List UInt8) × (Option Clo66) × Int) :=
  br ((len arg0) == (0 : Int))
  (some (([] : List UInt8), (none : Option Clo66), (4 : Int)))
  (ob (ix arg0 (0 : Int)) fun y1 =>
  ob (ix arg2 (0 : Int)) fun y2 =>
  ob (netdrv_writtenOf arg1 y1 y2) fun writte1 =>
  chk (decide (0 ≤ (1 : Int) ∧ (1 : Int) ≤ (len arg0) ∧ (len arg0) ≤ len arg0)) <|
  chk (decide (0 ≤ (1 : Int) ∧ (1 : Int) ≤ (len arg2) ∧ (len arg2) ≤ len arg2)) <|
  ob (netdrv_from arg1 (sub arg0 (1 : Int) (len arg0)) (sub arg2 (1 : Int) (len arg2))) fun from1 =>
  some (writte1.1, from1, writte1.2))

def feat_Has (set : UInt64) (bit : Int) : Option Bool :=
  br (decide (bit ≥ (0 : Int)))
  (br (decide (bit ≤ (63 : Int)))
  (chk (decide (0 ≤ bit)) <|
  some (((YS set bit.toNat) &&& (1 : UInt64)) == (1 : UInt64)))
  (some false))
  (some false)

def netdrv_OneL2B (m : gmem_Mem) (n1 : Int) (L2 : (A6 UInt8) → (A6 UInt8) → Int → UInt16 → (List UInt8) → (List UInt8) → (Option Clo66) → Int → Option (Frame × Int × Int)) (Dst1 : A6 UInt8) (Src1 : A6 UInt8) (Vlan1 : Int) (Type1 : UInt16) (Data1 : List UInt8) (b3 : List UInt8) (next1 : Option Clo66) (x1 : Int) : Option (Frame × Int × Int) :=
  br (decide (x1 < (wi (n1 - (1 : Int)))))
  (ob (next1) fun clo2 =>
  ob (netdrv_from_1 clo2.c0 m clo2.c2) fun from3 =>
  br (from3.2.2 != (0 : Int))
  (some ((Frame.mk (A6.mk (0 : UInt8) (0 : UInt8) (0 : UInt8) (0 : UInt8) (0 : UInt8) (0 : UInt8)) (A6.mk (0 : UInt8) (0 : UInt8) (0 : UInt8) (0 : UInt8) (0 : UInt8) (0 : UInt8)) (0 : Int) (0 : UInt16) ([] : List UInt8)), (0 : Int), from3.2.2))
  (chk (fits b3.length from3.1.length 1) <|
  L2 Dst1 Src1 Vlan1 Type1 Data1 (b3 ++ from3.1) from3.2.1 (wi (x1 + (1 : Int)))))
  (chk (decide (0 ≤ (12 : Int) ∧ (12 : Int) ≤ (len b3) ∧ (len b3) ≤ len b3)) <|
  ob (XX (sub b3 (12 : Int) (len b3))) fun read1 =>
  br (read1.2 != (0 : Int))
  (some ((Frame.mk (A6.mk (0 : UInt8) (0 : UInt8) (0 : UInt8) (0 : UInt8) (0 : UInt8) (0 : UInt8)) (A6.mk (0 : UInt8) (0 : UInt8) (0 : UInt8) (0 : UInt8) (0 : UInt8) (0 : UInt8)) (0 : Int) (0 : UInt16) ([] : List UInt8)), (0 : Int), read1.2))
  (some (read1.1, n1, (0 : Int))))

def netdrv_OneL2 (m : gmem_Mem) (n1 : Int) : Nat → (A6 UInt8) → (A6 UInt8) → Int → UInt16 → (List UInt8) → (List UInt8) → (Option Clo66) → Int → Option (Frame × Int × Int)
  | 0, _, _, _, _, _, _, _, _ => none
  | nf + 1, Dst1, Src1, Vlan1, Type1, Data1, b3, next1, x1 => netdrv_OneL2B m n1 (netdrv_OneL2 m n1 nf) Dst1 Src1 Vlan1 Type1 Data1 b3 next1 x1

def netdrv_OneJ1 (m : gmem_Mem) (bufs : List (List Seg)) (from2 : ((List UInt8) × (Option Clo66) × Int)) (n1 : Int) : Option (Frame × Int × Int) :=
  br (decide (n1 < (1 : Int)))
  (some ((Frame.mk (A6.mk (0 : UInt8) (0 : UInt8) (0 : UInt8) (0 : UInt8) (0 : UInt8) (0 : UInt8)) (A6.mk (0 : UInt8) (0 : UInt8) (0 : UInt8) (0 : UInt8) (0 : UInt8) (0 : UInt8)) (0 : Int) (0 : UInt16) ([] : List UInt8)), (0 : Int), (4 : Int)))
  (br (decide (n1 > (len bufs)))
  (some ((Frame.mk (A6.mk (0 : UInt8) (0 : UInt8) (0 : UInt8) (0 : UInt8) (0 : UInt8) (0 : UInt8)) (A6.mk (0 : UInt8) (0 : UInt8) (0 : UInt8) (0 : UInt8) (0 : UInt8) (0 : UInt8)) (0 : Int) (0 : UInt16) ([] : List UInt8)), (0 : Int), (4 : Int)))
  (netdrv_OneL2 m n1 fuel (A6.mk (0 : UInt8) (0 : UInt8) (0 : UInt8) (0 : UInt8) (0 : UInt8) (0 : UInt8)) (A6.mk (0 : UInt8) (0 : UInt8) (0 : UInt8) (0 : UInt8) (0 : UInt8) (0 : UInt8)) (0 : Int) (0 : UInt16) ([] : List UInt8) from2.1 from2.2.1 (0 : Int)))

def netdrv_One (m : gmem_Mem) (feats : UInt64) (bufs : List (List Seg)) (written : List UInt32) : Option (Frame × Int × Int) :=
  br ((len bufs) == (0 : Int))
  (some ((Frame.mk (A6.mk (0 : UInt8) (0 : UInt8) (0 : UInt8) (0 : UInt8) (0 : UInt8) (0 : UInt8)) (A6.mk (0 : UInt8) (0 : UInt8) (0 : UInt8) (0 : UInt8) (0 : UInt8) (0 : UInt8)) (0 : Int) (0 : UInt16) ([] : List UInt8)), (0 : Int), (2 : Int)))
  (br ((len bufs) != (len written))
  (some ((Frame.mk (A6.mk (0 : UInt8) (0 : UInt8) (0 : UInt8) (0 : UInt8) (0 : UInt8) (0 : UInt8)) (A6.mk (0 : UInt8) (0 : UInt8) (0 : UInt8) (0 : UInt8) (0 : UInt8) (0 : UInt8)) (0 : Int) (0 : UInt16) ([] : List UInt8)), (0 : Int), (2 : Int)))
  (ob (netdrv_from m bufs written) fun from1 =>
  ob (from1) fun clo1 =>
  ob (netdrv_from_1 clo1.c0 m clo1.c2) fun from2 =>
  br (from2.2.2 != (0 : Int))
  (some ((Frame.mk (A6.mk (0 : UInt8) (0 : UInt8) (0 : UInt8) (0 : UInt8) (0 : UInt8) (0 : UInt8)) (A6.mk (0 : UInt8) (0 : UInt8) (0 : UInt8) (0 : UInt8) (0 : UInt8) (0 : UInt8)) (0 : Int) (0 : UInt16) ([] : List UInt8)), (0 : Int), from2.2.2))
  (ob (Xo from2.1) fun readhd1 =>
  br (readhd1.2 != (0 : Int))
  (some ((Frame.mk (A6.mk (0 : UInt8) (0 : UInt8) (0 : UInt8) (0 : UInt8) (0 : UInt8) (0 : UInt8)) (A6.mk (0 : UInt8) (0 : UInt8) (0 : UInt8) (0 : UInt8) (0 : UInt8) (0 : UInt8)) (0 : Int) (0 : UInt16) ([] : List UInt8)), (0 : Int), (4 : Int)))
  (ob (feat_Has feats (15 : Int)) fun has1 =>
  br (has1)
  (netdrv_OneJ1 m bufs from2 (i16 readhd1.1.Buffers))
  (netdrv_OneJ1 m bufs from2 (1 : Int))))))

def kit_Frame (ap0 : Frame) (b : Frame) : Option Bool :=
  br (ap0.Dst == b.Dst)
  (br (ap0.Src == b.Src)
  (br (ap0.Vlan == b.Vlan)
  (br (ap0.Type_ == b.Type_)
  (some (ap0.Data == b.Data))
  (some false))
  (some false))
  (some false))
  (some false)

def kit_SameSegsL1B (ap0 : List Seg) (b : List Seg) (L1 : Int → Option Bool) (i1 : Int) : Option Bool :=
  br (decide (i1 < (len ap0)))
  (ob (ix ap0 i1) fun s1 =>
  ob (ix b i1) fun s2 =>
  br (s1 != s2)
  (some false)
  (L1 (wi (i1 + (1 : Int)))))
  (some true)

def kit_SameSegsL1 (ap0 : List Seg) (b : List Seg) : Nat → Int → Option Bool
  | 0, _ => none
  | nf + 1, i1 => kit_SameSegsL1B ap0 b (kit_SameSegsL1 ap0 b nf) i1

def kit_SameSegs (ap0 : List Seg) (b : List Seg) : Option Bool :=
  br ((len ap0) != (len b))
  (some false)
  (kit_SameSegsL1 ap0 b fuel (0 : Int))

def law26zlives  : Option Bool :=
  ob (gmem_New [(Region.mk (0 : UInt64) (4096 : UInt64))]) fun new1 =>
  onO new1.1
  (none)
  (fun mem1 =>
  ob (ref_New02 [(Region.mk (0 : UInt64) (4096 : UInt64))]) fun new2 =>
  onO new2.1
  (none)
  (fun mem2 =>
  br (new1.2 != (0 : Int))
  (some false)
  (br (new2.2 != (0 : Int))
  (some false)
  (chk (decide (0 ≤ (10 : Int) ∧ (10 : Int) ≤ (10 : Int) ∧ (1 : Int) * (10 : Int) ≤ 140737488355328)) <|
  ob (Yt mem1 (100 : UInt64) (Frame.mk (A6.mk (0 : UInt8) (0 : UInt8) (0 : UInt8) (0 : UInt8) (0 : UInt8) (0 : UInt8)) (A6.mk (0 : UInt8) (0 : UInt8) (0 : UInt8) (0 : UInt8) (0 : UInt8) (0 : UInt8)) ((-1) : Int) (2048 : UInt16) (List.replicate (10 : Int).toNat (0 : UInt8))) ((-1) : Int) [(12 : Int)]) fun lay1 =>
  ob (netdrv_Post (200 : UInt64) (60 : Int) ([] : List Int)) fun post1 =>
  ob (ref_Deliver25 mem2 (0 : UInt64) [post1] (Frame.mk (A6.mk (0 : UInt8) (0 : UInt8) (0 : UInt8) (0 : UInt8) (0 : UInt8) (0 : UInt8)) (A6.mk (0 : UInt8) (0 : UInt8) (0 : UInt8) (0 : UInt8) (0 : UInt8) (0 : UInt8)) ((-1) : Int) (2048 : UInt16) (List.replicate (10 : Int).toNat (0 : UInt8)))) fun delive1 =>
  br (lay1.2.1 != (0 : Int))
  (some false)
  (br (delive1.2.1 != (0 : Int))
  (some false)
  (ob (ref_Mem_Image02 (dumbwaiterref02_Mem.mk mem2.L delive1.2.2)) fun image1 =>
  ob (XF (gmem_Mem.mk mem1.l lay1.2.2) (0 : UInt64) image1) fun write1 =>
  br (write1.1 != (0 : Int))
  (some false)
  (ob (netdrv_One (gmem_Mem.mk mem1.l write1.2) (0 : UInt64) [post1] delive1.1) fun one1 =>
  br (one1.2.2 == (0 : Int))
  (br (one1.2.1 == (1 : Int))
  (ob (kit_Frame (Frame.mk (A6.mk (0 : UInt8) (0 : UInt8) (0 : UInt8) (0 : UInt8) (0 : UInt8) (0 : UInt8)) (A6.mk (0 : UInt8) (0 : UInt8) (0 : UInt8) (0 : UInt8) (0 : UInt8) (0 : UInt8)) ((-1) : Int) (2048 : UInt16) (List.replicate (10 : Int).toNat (0 : UInt8))) one1.1) fun frame1 =>
  br (frame1)
  (ob (kit_SameSegs lay1.1 [(Seg.mk (100 : UInt64) (12 : UInt32) false), (Seg.mk (112 : UInt64) (24 : UInt32) false)]) fun samese1 =>
  some samese1)
  (some false))
  (some false))
  (some false))))))))

def XV (m : dumbwaiterref02_Mem) (atp1 : UInt64) (np2 : Int) : Option ((List UInt8) × Int) :=
  br (decide (np2 < (0 : Int)))
  (some (([] : List UInt8), (2 : Int)))
  (br (np2 == (0 : Int))
  (some (([] : List UInt8), (0 : Int)))
  (ob (XC m atp1 (u64 np2)) fun ZG =>
  br (decide (ZG.1 < (0 : Int)))
  (some (([] : List UInt8), (5 : Int)))
  (ob (ix m.B ZG.1) fun row1 =>
  chk (decide (0 ≤ ZG.2 ∧ ZG.2 ≤ (wi (ZG.2 + np2)) ∧ (wi (ZG.2 + np2)) ≤ len row1)) <|
  chk (fits ([] : List UInt8).length (sub row1 ZG.2 (wi (ZG.2 + np2))).length 1) <|
  some (sub row1 ZG.2 (wi (ZG.2 + np2)), (0 : Int)))))

def XW (i1 : Int) (L1 : (List UInt8) → Int → Option ((List UInt8) × Int)) (out2 : List UInt8) : Option ((List UInt8) × Int) :=
  L1 out2 (wi (i1 + (1 : Int)))

def XD (i1 : Int) (L1 : (List UInt8) → Int → Option ((List UInt8) × Int)) (out3 : List UInt8) : Option ((List UInt8) × Int) :=
  XW i1 L1 out3

def Kg (m : dumbwaiterref02_Mem) (l : List Seg) (L1 : (List UInt8) → Int → Option ((List UInt8) × Int)) (out1 : List UInt8) (i1 : Int) : Option ((List UInt8) × Int) :=
  br (decide (i1 < (len l)))
  (ob (ix l i1) fun s1 =>
  br ((!s1.Write))
  (ob (ix l i1) fun s2 =>
  ob (ix l i1) fun s3 =>
  ob (XV m s2.At (i32 s3.Len)) fun read1 =>
  chk (fits out1.length read1.1.length 1) <|
  XD i1 L1 (out1 ++ read1.1))
  (XD i1 L1 out1))
  (some (out1, (0 : Int)))

def ZO (m : dumbwaiterref02_Mem) (l : List Seg) : Nat → (List UInt8) → Int → Option ((List UInt8) × Int)
  | 0, _, _ => none
  | nf + 1, out1, i1 => Kg m l (ZO m l nf) out1 i1

def Xz (m : dumbwaiterref02_Mem) (l : List Seg) : Option ((List UInt8) × Int) :=
  ob (ref_In05 m l) fun in1 =>
  br (in1 != (0 : Int))
  (some (([] : List UInt8), in1))
  (ZO m l fuel [] (0 : Int))

def Yn (b : List UInt8) : Option (Hdr × Int) :=
  br (decide ((len b) < (12 : Int)))
  (some ((Hdr.mk (0 : UInt8) (0 : UInt16) (0 : UInt16) (0 : UInt16)), (4 : Int)))
  (ob (ix b (0 : Int)) fun y1 =>
  ob (ix b (6 : Int)) fun y2 =>
  ob (ix b (7 : Int)) fun y3 =>
  ob (ix b (8 : Int)) fun y4 =>
  ob (ix b (9 : Int)) fun y5 =>
  ob (ix b (10 : Int)) fun y6 =>
  ob (ix b (11 : Int)) fun y7 =>
  some ((Hdr.mk y1 (y2.toUInt16 ||| (Zm y3.toUInt16 ((8 : UInt64).toNat))) (y4.toUInt16 ||| (Zm y5.toUInt16 ((8 : UInt64).toNat))) (y6.toUInt16 ||| (Zm y7.toUInt16 ((8 : UInt64).toNat)))), (0 : Int)))

def ref_Sum23J2 (i1 : Int) (L1 : UInt64 → Int → Option UInt16) (n2 : UInt64) : Option UInt16 :=
  L1 n2 (wi (i1 + (2 : Int)))

def YE (i1 : Int) (L1 : UInt64 → Int → Option UInt16) (n3 : UInt64) : Option UInt16 :=
  ref_Sum23J2 i1 L1 n3

def ref_Sum23L4B  (L4 : UInt64 → Option UInt16) (n4 : UInt64) : Option UInt16 :=
  br (decide (n4 > (65535 : UInt64)))
  (L4 ((n4 % (65536 : UInt64)) + (n4 / (65536 : UInt64))))
  (some (~~~n4.toUInt16))

def ref_Sum23L4  : Nat → UInt64 → Option UInt16
  | 0, _ => none
  | nf + 1, n4 => ref_Sum23L4B (ref_Sum23L4 nf) n4

def ref_Sum23L1B (b : List UInt8) (L1 : UInt64 → Int → Option UInt16) (n1 : UInt64) (i1 : Int) : Option UInt16 :=
  br (decide (i1 < (len b)))
  (ob (ix b i1) fun y1 =>
  br (decide ((wi (i1 + (1 : Int))) < (len b)))
  (ob (ix b (wi (i1 + (1 : Int)))) fun y2 =>
  YE i1 L1 ((n1 + (shl64 y1.toUInt64 ((8 : UInt64).toNat))) + y2.toUInt64))
  (YE i1 L1 (n1 + (shl64 y1.toUInt64 ((8 : UInt64).toNat)))))
  (ref_Sum23L4 fuel n1)

def Xl (b : List UInt8) : Nat → UInt64 → Int → Option UInt16
  | 0, _, _ => none
  | nf + 1, n1, i1 => ref_Sum23L1B b (Xl b nf) n1 i1

def ref_Sum23 (b : List UInt8) : Option UInt16 :=
  Xl b fuel (0 : UInt64) (0 : Int)

def YM (b : List UInt8) (hp1 : Hdr) : Option ((List UInt8) × Int) :=
  chk (fits ([] : List UInt8).length b.length 1) <|
  br ((hp1.Flags &&& (1 : UInt8)) == (0 : UInt8))
  (some (b, (0 : Int)))
  (br (decide ((i16 hp1.Start) > (len b)))
  (some (([] : List UInt8), (4 : Int)))
  (br (decide ((wi ((wi ((i16 hp1.Start) + (i16 hp1.Off))) + (2 : Int))) > (len b)))
  (some (([] : List UInt8), (4 : Int)))
  (chk (decide (0 ≤ (hp1.Start.toNat : Int) ∧ (hp1.Start.toNat : Int) ≤ (len b) ∧ (len b) ≤ len b)) <|
  ob (ref_Sum23 (sub b (hp1.Start.toNat : Int) (len b))) fun sum1 =>
  ob (ix b (wi ((i16 hp1.Start) + (i16 hp1.Off)))) fun y1 =>
  ob (ix (b.set (wi ((i16 hp1.Start) + (i16 hp1.Off))).toNat ((Zt sum1 ((8 : UInt64).toNat)).toUInt8)) (wi ((wi ((i16 hp1.Start) + (i16 hp1.Off))) + (1 : Int)))) fun y2 =>
  some ((b.set (wi ((i16 hp1.Start) + (i16 hp1.Off))).toNat ((Zt sum1 ((8 : UInt64).toNat)).toUInt8)).set (wi ((wi ((i16 hp1.Start) + (i16 hp1.Off))) + (1 : Int))).toNat sum1.toUInt8, (0 : Int)))))

def XN (b : List UInt8) (Dst3 : A6 UInt8) (Src3 : A6 UInt8) (Vlan3 : Int) (Type3 : UInt16) (Data3 : List UInt8) (Dst4 : A6 UInt8) (Src4 : A6 UInt8) (Vlan4 : Int) (Type4 : UInt16) (Data4 : List UInt8) (at1 : Int) : Option (Frame × Int) :=
  ob (ix b at1) fun y5 =>
  ob (ix b (wi (at1 + (1 : Int)))) fun y6 =>
  chk (decide (0 ≤ (wi (at1 + (2 : Int))) ∧ (wi (at1 + (2 : Int))) ≤ (len b) ∧ (len b) ≤ len b)) <|
  chk (fits ([] : List UInt8).length (sub b (wi (at1 + (2 : Int))) (len b)).length 1) <|
  ob (Yf (Frame.mk Dst4 Src4 Vlan4 ((Zm y5.toUInt16 ((8 : UInt64).toNat)) ||| y6.toUInt16) (sub b (wi (at1 + (2 : Int))) (len b)))) fun check1 =>
  br (check1 != (0 : Int))
  (some ((Frame.mk (A6.mk (0 : UInt8) (0 : UInt8) (0 : UInt8) (0 : UInt8) (0 : UInt8) (0 : UInt8)) (A6.mk (0 : UInt8) (0 : UInt8) (0 : UInt8) (0 : UInt8) (0 : UInt8) (0 : UInt8)) (0 : Int) (0 : UInt16) ([] : List UInt8)), (4 : Int)))
  (some ((Frame.mk Dst4 Src4 Vlan4 ((Zm y5.toUInt16 ((8 : UInt64).toNat)) ||| y6.toUInt16) (sub b (wi (at1 + (2 : Int))) (len b))), (0 : Int)))

def Kd (b : List UInt8) (L1 : (A6 UInt8) → (A6 UInt8) → Int → UInt16 → (List UInt8) → (A6 UInt8) → (A6 UInt8) → Int → UInt16 → (List UInt8) → Int → Option (Frame × Int)) (Dst1 : A6 UInt8) (Src1 : A6 UInt8) (Vlan1 : Int) (Type1 : UInt16) (Data1 : List UInt8) (Dst2 : A6 UInt8) (Src2 : A6 UInt8) (Vlan2 : Int) (Type2 : UInt16) (Data2 : List UInt8) (i1 : Int) : Option (Frame × Int) :=
  br (decide (i1 < (6 : Int)))
  (ob (ix b i1) fun y1 =>
  ob (ix b (wi ((6 : Int) + i1))) fun y2 =>
  chk (decide (0 ≤ i1 ∧ i1 < (6 : Int))) <|
  chk (decide (0 ≤ i1 ∧ i1 < (6 : Int))) <|
  chk (decide (0 ≤ i1 ∧ i1 < (6 : Int))) <|
  chk (decide (0 ≤ i1 ∧ i1 < (6 : Int))) <|
  L1 Dst1 Src1 Vlan1 Type1 Data1 (Dst2.st i1.toNat y1) (Src2.st i1.toNat y2) Vlan2 Type2 Data2 (wi (i1 + (1 : Int))))
  (ob (ix b (12 : Int)) fun y3 =>
  br (y3 == (129 : UInt8))
  (ob (ix b (13 : Int)) fun y4 =>
  br (y4 == (0 : UInt8))
  (br (decide ((len b) < (18 : Int)))
  (some ((Frame.mk (A6.mk (0 : UInt8) (0 : UInt8) (0 : UInt8) (0 : UInt8) (0 : UInt8) (0 : UInt8)) (A6.mk (0 : UInt8) (0 : UInt8) (0 : UInt8) (0 : UInt8) (0 : UInt8) (0 : UInt8)) (0 : Int) (0 : UInt16) ([] : List UInt8)), (4 : Int)))
  (ob (ix b (14 : Int)) fun y7 =>
  br (decide (y7 > (15 : UInt8)))
  (some ((Frame.mk (A6.mk (0 : UInt8) (0 : UInt8) (0 : UInt8) (0 : UInt8) (0 : UInt8) (0 : UInt8)) (A6.mk (0 : UInt8) (0 : UInt8) (0 : UInt8) (0 : UInt8) (0 : UInt8) (0 : UInt8)) (0 : Int) (0 : UInt16) ([] : List UInt8)), (4 : Int)))
  (ob (ix b (14 : Int)) fun y8 =>
  ob (ix b (15 : Int)) fun y9 =>
  XN b Dst1 Src1 Vlan1 Type1 Data1 Dst2 Src2 (ori (shli (i8 y8) ((8 : UInt64).toNat)) (i8 y9)) Type2 Data2 (16 : Int))))
  (XN b Dst1 Src1 Vlan1 Type1 Data1 Dst2 Src2 Vlan2 Type2 Data2 (12 : Int)))
  (ob (ix b (12 : Int)) fun y10 =>
  ob (ix b (wi ((12 : Int) + (1 : Int)))) fun y11 =>
  chk (decide (0 ≤ (wi ((12 : Int) + (2 : Int))) ∧ (wi ((12 : Int) + (2 : Int))) ≤ (len b) ∧ (len b) ≤ len b)) <|
  chk (fits ([] : List UInt8).length (sub b (wi ((12 : Int) + (2 : Int))) (len b)).length 1) <|
  ob (Yf (Frame.mk Dst2 Src2 Vlan2 ((Zm y10.toUInt16 ((8 : UInt64).toNat)) ||| y11.toUInt16) (sub b (wi ((12 : Int) + (2 : Int))) (len b)))) fun check2 =>
  br (check2 != (0 : Int))
  (some ((Frame.mk (A6.mk (0 : UInt8) (0 : UInt8) (0 : UInt8) (0 : UInt8) (0 : UInt8) (0 : UInt8)) (A6.mk (0 : UInt8) (0 : UInt8) (0 : UInt8) (0 : UInt8) (0 : UInt8) (0 : UInt8)) (0 : Int) (0 : UInt16) ([] : List UInt8)), (4 : Int)))
  (some ((Frame.mk Dst2 Src2 Vlan2 ((Zm y10.toUInt16 ((8 : UInt64).toNat)) ||| y11.toUInt16) (sub b (wi ((12 : Int) + (2 : Int))) (len b))), (0 : Int)))))

def ref_Read23L1 (b : List UInt8) : Nat → (A6 UInt8) → (A6 UInt8) → Int → UInt16 → (List UInt8) → (A6 UInt8) → (A6 UInt8) → Int → UInt16 → (List UInt8) → Int → Option (Frame × Int)
  | 0, _, _, _, _, _, _, _, _, _, _, _ => none
  | nf + 1, Dst1, Src1, Vlan1, Type1, Data1, Dst2, Src2, Vlan2, Type2, Data2, i1 => Kd b (ref_Read23L1 b nf) Dst1 Src1 Vlan1 Type1 Data1 Dst2 Src2 Vlan2 Type2 Data2 i1

def Yo (b : List UInt8) : Option (Frame × Int) :=
  br (decide ((len b) < (14 : Int)))
  (some ((Frame.mk (A6.mk (0 : UInt8) (0 : UInt8) (0 : UInt8) (0 : UInt8) (0 : UInt8) (0 : UInt8)) (A6.mk (0 : UInt8) (0 : UInt8) (0 : UInt8) (0 : UInt8) (0 : UInt8) (0 : UInt8)) (0 : Int) (0 : UInt16) ([] : List UInt8)), (4 : Int)))
  (ref_Read23L1 b fuel (A6.mk (0 : UInt8) (0 : UInt8) (0 : UInt8) (0 : UInt8) (0 : UInt8) (0 : UInt8)) (A6.mk (0 : UInt8) (0 : UInt8) (0 : UInt8) (0 : UInt8) (0 : UInt8) (0 : UInt8)) (0 : Int) (0 : UInt16) ([] : List UInt8) (A6.mk (0 : UInt8) (0 : UInt8) (0 : UInt8) (0 : UInt8) (0 : UInt8) (0 : UInt8)) (A6.mk (0 : UInt8) (0 : UInt8) (0 : UInt8) (0 : UInt8) (0 : UInt8) (0 : UInt8)) ((-1) : Int) (0 : UInt16) ([] : List UInt8) (0 : Int))

def YL (m : dumbwaiterref02_Mem) (feats : UInt64) (l : List Seg) : Option (Frame × Int) :=
  ob (Xz m l) fun Zu =>
  br (Zu.2 != (0 : Int))
  (some ((Frame.mk (A6.mk (0 : UInt8) (0 : UInt8) (0 : UInt8) (0 : UInt8) (0 : UInt8) (0 : UInt8)) (A6.mk (0 : UInt8) (0 : UInt8) (0 : UInt8) (0 : UInt8) (0 : UInt8) (0 : UInt8)) (0 : Int) (0 : UInt16) ([] : List UInt8)), Zu.2))
  (ob (Yn Zu.1) fun readhd1 =>
  br (readhd1.2 != (0 : Int))
  (some ((Frame.mk (A6.mk (0 : UInt8) (0 : UInt8) (0 : UInt8) (0 : UInt8) (0 : UInt8) (0 : UInt8)) (A6.mk (0 : UInt8) (0 : UInt8) (0 : UInt8) (0 : UInt8) (0 : UInt8) (0 : UInt8)) (0 : Int) (0 : UInt16) ([] : List UInt8)), (4 : Int)))
  (chk (decide (0 ≤ (12 : Int) ∧ (12 : Int) ≤ (len Zu.1) ∧ (len Zu.1) ≤ len Zu.1)) <|
  ob (Yx feats (0 : Int)) fun has1 =>
  br (has1)
  (ob (YM (sub Zu.1 (12 : Int) (len Zu.1)) readhd1.1) fun fill1 =>
  br (fill1.2 != (0 : Int))
  (some ((Frame.mk (A6.mk (0 : UInt8) (0 : UInt8) (0 : UInt8) (0 : UInt8) (0 : UInt8) (0 : UInt8)) (A6.mk (0 : UInt8) (0 : UInt8) (0 : UInt8) (0 : UInt8) (0 : UInt8) (0 : UInt8)) (0 : Int) (0 : UInt16) ([] : List UInt8)), (4 : Int)))
  (ob (Yo fill1.1) fun read1 =>
  some (read1.1, read1.2)))
  (ob (Yo (sub Zu.1 (12 : Int) (len Zu.1))) fun read2 =>
  some (read2.1, read2.2))))

def kit_Own (b : List UInt8) : Option (List UInt8) :=
  chk (fits ([] : List UInt8).length b.length 1) <|
  some b

def law26zmemory  : Option (List Region) :=
  some [(Region.mk (0 : UInt64) (32768 : UInt64))]

def kit_Pick (np0 : Int) (m : Int) : Option Int :=
  br (decide (m < (1 : Int)))
  (some (0 : Int))
  (chk (!(m == 0)) <|
  br (decide ((remi np0 m) < (0 : Int)))
  (some (wi ((remi np0 m) + m)))
  (some (remi np0 m)))

def XG (m : gmem_Mem) : Option (List UInt8) :=
  ob (ZW m) fun made1 =>
  ob (Zk m.b) fun concat1 =>
  some concat1

def Yu (f : Frame) (atp1 : Int) (cuts : List Int) (off : Int) (feats : UInt64) : Option Bool :=
  ob (law26zlives) fun lives1 =>
  chk (!((!lives1))) <|
  ob (Yf f) fun check1 =>
  br (check1 != (0 : Int))
  (some true)
  (br (decide ((len cuts) > (70 : Int)))
  (some true)
  (ob (law26zmemory) fun memory1 =>
  ob (gmem_New memory1) fun new1 =>
  onO new1.1
  (none)
  (fun mem1 =>
  ob (law26zmemory) fun memory2 =>
  ob (ref_New02 memory2) fun new2 =>
  onO new2.1
  (none)
  (fun mem2 =>
  chk (!(new1.2 != (0 : Int))) <|
  chk (!(new2.2 != (0 : Int))) <|
  ob (kit_Pick atp1 (30000 : Int)) fun pick1 =>
  ob (Yt mem1 (u64 pick1) f ((-1) : Int) cuts) fun lay1 =>
  chk (!(lay1.2.1 != (0 : Int))) <|
  ob (XG (gmem_Mem.mk mem1.l lay1.2.2)) fun image1 =>
  ob (Xc mem2 (0 : UInt64) image1) fun write1 =>
  chk (!(write1.1 != (0 : Int))) <|
  ob (YL (dumbwaiterref02_Mem.mk mem2.L write1.2) feats lay1.1) fun sent1 =>
  chk (!(sent1.2 != (0 : Int))) <|
  ob (kit_Frame sent1.1 f) fun frame1 =>
  chk (!((!frame1))) <|
  br (decide ((len f.Data) < (2 : Int)))
  (some true)
  (chk (decide (0 ≤ (0 : Int) ∧ (0 : Int) ≤ (wi ((quoi (len f.Data) (2 : Int)) * (2 : Int))) ∧ (wi ((quoi (len f.Data) (2 : Int)) * (2 : Int))) ≤ len f.Data)) <|
  ob (kit_Own (sub f.Data (0 : Int) (wi ((quoi (len f.Data) (2 : Int)) * (2 : Int))))) fun own1 =>
  ob (kit_Pick off (quoi (len own1) (2 : Int))) fun pick2 =>
  ob (ix own1 (wi ((2 : Int) * pick2))) fun y1 =>
  ob (ix (own1.set (wi ((2 : Int) * pick2)).toNat (0 : UInt8)) (wi ((wi ((2 : Int) * pick2)) + (1 : Int)))) fun y2 =>
  ob (Yt (gmem_Mem.mk mem1.l lay1.2.2) (u64 pick1) (Frame.mk f.Dst f.Src f.Vlan f.Type_ ((own1.set (wi ((2 : Int) * pick2)).toNat (0 : UInt8)).set (wi ((wi ((2 : Int) * pick2)) + (1 : Int))).toNat (0 : UInt8))) (wi ((2 : Int) * pick2)) cuts) fun lay2 =>
  chk (!(lay2.2.1 != (0 : Int))) <|
  ob (XG (gmem_Mem.mk mem1.l lay2.2.2)) fun image2 =>
  ob (Xc (dumbwaiterref02_Mem.mk mem2.L write1.2) (0 : UInt64) image2) fun write2 =>
  chk (!(write2.1 != (0 : Int))) <|
  ob (YL (dumbwaiterref02_Mem.mk mem2.L write2.2) (1 : UInt64) lay2.1) fun sent2 =>
  chk (sent2.2 == (0 : Int)) <|
  ob (ref_Sum23 sent2.1.Data) fun sum1 =>
  chk (sum1 == (0 : UInt16)) <|
  chk ((len sent2.1.Data) == (len ((own1.set (wi ((2 : Int) * pick2)).toNat (0 : UInt8)).set (wi ((wi ((2 : Int) * pick2)) + (1 : Int))).toNat (0 : UInt8)))) <|
  some true)))))

end Go.Proofs.Ytgcbcnpbnonnjaa
