/- What the functions reckon, as plain words. No statement of the seat is proved here; no condition. -/
import Derived.Test.YtgcbcnpbnonnjaaTy
namespace Go.Proofs.Ytgcbcnpbnonnjaa

def Yl (arg0 : Int) (arg1 : UInt64) : Option Int :=
  br (arg0 == (0 : Int))
  (br (decide (arg1 ≥ (4294967296 : UInt64)))
  (some (2 : Int))
  (some arg0))
  (some arg0)

def seg_CheckL1B (l : List Seg) (L1 : Int → UInt64 → Int → Option Int) (m1 : Int) (m2 : UInt64) (x1 : Int) : Option Int :=
  br (decide (x1 < (len l)))
  (ob (ix l x1) fun s1 =>
  br (decide (s1.Len < (1 : UInt32)))
  (ob (Yl (2 : Int) m2) fun check1 =>
  some check1)
  (br (decide ((s1.Len.toUInt64 - (1 : UInt64)) > ((18446744073709551615 : UInt64) - s1.At)))
  (ob (Yl (2 : Int) m2) fun check2 =>
  some check2)
  (br (decide (x1 > (0 : Int)))
  (ob (ix l (wi (x1 - (1 : Int)))) fun s2 =>
  br (s2.Write)
  (br ((!s1.Write))
  (ob (Yl (2 : Int) m2) fun check3 =>
  some check3)
  (L1 m1 (m2 + s1.Len.toUInt64) (wi (x1 + (1 : Int)))))
  (L1 m1 (m2 + s1.Len.toUInt64) (wi (x1 + (1 : Int)))))
  (L1 m1 (m2 + s1.Len.toUInt64) (wi (x1 + (1 : Int)))))))
  (ob (Yl (0 : Int) m2) fun check4 =>
  some check4)

def YT (l : List Seg) : Nat → Int → UInt64 → Int → Option Int
  | 0, _, _, _ => none
  | nf + 1, m1, m2, x1 => seg_CheckL1B l (YT l nf) m1 m2 x1

def Kh (l : List Seg) : Option Int :=
  br (decide ((len l) > (64 : Int)))
  (some (3 : Int))
  (YT l fuel (0 : Int) (0 : UInt64) (0 : Int))

def seg_PartL1B (l : List Seg) (write : Bool) (L1 : (List Seg) → Int → Option (List Seg)) (out1 : List Seg) (x1 : Int) : Option (List Seg) :=
  br (decide (x1 < (len l)))
  (ob (ix l x1) fun s1 =>
  br (s1.Write == write)
  (chk (fits out1.length [s1].length 16) <|
  L1 (out1 ++ [s1]) (wi (x1 + (1 : Int))))
  (L1 out1 (wi (x1 + (1 : Int)))))
  (some out1)

def seg_PartL1 (l : List Seg) (write : Bool) : Nat → (List Seg) → Int → Option (List Seg)
  | 0, _, _ => none
  | nf + 1, out1, x1 => seg_PartL1B l write (seg_PartL1 l write nf) out1 x1

def seg_Part (l : List Seg) (write : Bool) : Option (List Seg) :=
  ob (Kh l) fun check1 =>
  br (check1 != (0 : Int))
  (some ([] : List Seg))
  (seg_PartL1 l write fuel [] (0 : Int))

def seg_TotalJ2 (x1 : Int) (L1 : UInt64 → UInt64 → Int → Option (UInt64 × UInt64)) (read2 : UInt64) (write2 : UInt64) : Option (UInt64 × UInt64) :=
  L1 read2 write2 (wi (x1 + (1 : Int)))

def YS (x1 : Int) (L1 : UInt64 → UInt64 → Int → Option (UInt64 × UInt64)) (read3 : UInt64) (write3 : UInt64) : Option (UInt64 × UInt64) :=
  seg_TotalJ2 x1 L1 read3 write3

def seg_TotalL1B (l : List Seg) (L1 : UInt64 → UInt64 → Int → Option (UInt64 × UInt64)) (read1 : UInt64) (write1 : UInt64) (x1 : Int) : Option (UInt64 × UInt64) :=
  br (decide (x1 < (len l)))
  (ob (ix l x1) fun s1 =>
  br (s1.Write)
  (YS x1 L1 read1 (write1 + s1.Len.toUInt64))
  (YS x1 L1 (read1 + s1.Len.toUInt64) write1))
  (some (read1, write1))

def XI (l : List Seg) : Nat → UInt64 → UInt64 → Int → Option (UInt64 × UInt64)
  | 0, _, _, _ => none
  | nf + 1, read1, write1, x1 => seg_TotalL1B l (XI l nf) read1 write1 x1

def seg_Total (l : List Seg) : Option (UInt64 × UInt64) :=
  ob (Kh l) fun check1 =>
  br (check1 != (0 : Int))
  (some ((0 : UInt64), (0 : UInt64)))
  (XI l fuel (0 : UInt64) (0 : UInt64) (0 : Int))

def ZB (sp0 : List Seg) : Option (List Seg) :=
  chk (fits ([] : List Seg).length sp0.length 16) <|
  some sp0

def seg_row_eatL1B  (L1 : (List Seg) → UInt64 → (List Seg) → Option ((List Seg) × (List Seg))) (m1 : List Seg) (n1 : UInt64) (out1 : List Seg) : Option ((List Seg) × (List Seg)) :=
  br (decide (n1 > (0 : UInt64)))
  (br (decide ((len m1) > (0 : Int)))
  (ob (ix m1 (0 : Int)) fun s1 =>
  chk (fits out1.length [(Seg.mk s1.At ((QQ n1 s1.Len.toUInt64).toUInt32) s1.Write)].length 16) <|
  br (decide ((QQ n1 s1.Len.toUInt64) < s1.Len.toUInt64))
  (chk (decide (0 ≤ (1 : Int) ∧ (1 : Int) ≤ (len m1) ∧ (len m1) ≤ len m1)) <|
  chk (fits [(Seg.mk (s1.At + (QQ n1 s1.Len.toUInt64)) (s1.Len - ((QQ n1 s1.Len.toUInt64).toUInt32)) s1.Write)].length (sub m1 (1 : Int) (len m1)).length 16) <|
  some (out1 ++ [(Seg.mk s1.At ((QQ n1 s1.Len.toUInt64).toUInt32) s1.Write)], [(Seg.mk (s1.At + (QQ n1 s1.Len.toUInt64)) (s1.Len - ((QQ n1 s1.Len.toUInt64).toUInt32)) s1.Write)] ++ (sub m1 (1 : Int) (len m1))))
  (chk (decide (0 ≤ (1 : Int) ∧ (1 : Int) ≤ (len m1) ∧ (len m1) ≤ len m1)) <|
  L1 (sub m1 (1 : Int) (len m1)) (n1 - (QQ n1 s1.Len.toUInt64)) (out1 ++ [(Seg.mk s1.At ((QQ n1 s1.Len.toUInt64).toUInt32) s1.Write)])))
  (some (out1, m1)))
  (some (out1, m1))

def Yv  : Nat → (List Seg) → UInt64 → (List Seg) → Option ((List Seg) × (List Seg))
  | 0, _, _, _ => none
  | nf + 1, m1, n1, out1 => seg_row_eatL1B (Yv nf) m1 n1 out1

def seg_row_eat (rp0 : List Seg) (np1 : UInt64) : Option ((List Seg) × (List Seg)) :=
  Yv fuel rp0 np1 []

def seg_Cut (l : List Seg) (fromp1 : UInt64) (np2 : UInt64) : Option (List Seg) :=
  ob (Kh l) fun check1 =>
  br (check1 != (0 : Int))
  (some ([] : List Seg))
  (ob (ZB l) fun seg1 =>
  ob (seg_row_eat seg1 fromp1) fun eat1 =>
  ob (seg_row_eat eat1.2 np2) fun eat2 =>
  some eat2.1)

def Yj (at1 : UInt64) (i1 : Int) (L1 : (List Seg) → Int → UInt64 → Int → Option (List Seg)) (y3 : Int) (cut1 : (List Seg)) (cut2 : (List Seg)) (more2 : Int) : Option (List Seg) :=
  L1 (cut1 ++ cut2) more2 (at1 + (u64 y3)) (wi (i1 + (1 : Int)))

def Ko (cuts : List Int) (total1 : (UInt64 × UInt64)) (L1 : (List Seg) → Int → UInt64 → Int → Option (List Seg)) (l1 : List Seg) (more1 : Int) (at1 : UInt64) (i1 : Int) : Option (List Seg) :=
  br (decide (i1 < (len cuts)))
  (ob (ix cuts i1) fun y1 =>
  br (decide (y1 ≤ (0 : Int)))
  (L1 l1 more1 at1 (wi (i1 + (1 : Int))))
  (ob (ix cuts i1) fun y2 =>
  br (decide ((u64 y2) ≥ ((total1.1 + total1.2) - at1)))
  (L1 l1 more1 at1 (wi (i1 + (1 : Int))))
  (ob (ix cuts i1) fun y3 =>
  ob (seg_Cut l1 (0 : UInt64) (at1 + (u64 y3))) fun cut1 =>
  ob (seg_Cut l1 (at1 + (u64 y3)) (total1.1 + total1.2)) fun cut2 =>
  chk (fits cut1.length cut2.length 16) <|
  br (decide ((len (cut1 ++ cut2)) > (len l1)))
  (br (more1 == (0 : Int))
  (some l1)
  (Yj at1 i1 L1 y3 cut1 cut2 (wi (more1 - (1 : Int)))))
  (Yj at1 i1 L1 y3 cut1 cut2 more1))))
  (some l1)

def Xl (cuts : List Int) (total1 : (UInt64 × UInt64)) : Nat → (List Seg) → Int → UInt64 → Int → Option (List Seg)
  | 0, _, _, _, _ => none
  | nf + 1, l1, more1, at1, i1 => Ko cuts total1 (Xl cuts total1 nf) l1 more1 at1 i1

def Kb (l : List Seg) (cuts : List Int) (more : Int) : Option (List Seg) :=
  ob (seg_Total l) fun total1 =>
  Xl cuts total1 fuel l more (0 : UInt64) (0 : Int)

def blkdrv_Cut (l : List Seg) (cuts : List Int) : Option (List Seg) :=
  ob (Kh l) fun check1 =>
  br (check1 != (0 : Int))
  (some ([] : List Seg))
  (ob (seg_Part l false) fun part1 =>
  ob (seg_Part l true) fun part2 =>
  ob (Kb part1 cuts (wi ((64 : Int) - (len l)))) fun split1 =>
  ob (Kb part2 cuts (wi ((wi ((64 : Int) - (len split1))) - (len part2)))) fun split2 =>
  chk (fits split1.length split2.length 16) <|
  some (split1 ++ split2))

def netdrv_Post (atp0 : UInt64) (np1 : Int) (cuts : List Int) : Option (List Seg) :=
  br (decide (np1 < (1 : Int)))
  (some ([] : List Seg))
  (br (decide (np1 ≥ (4294967296 : Int)))
  (some ([] : List Seg))
  (ob (blkdrv_Cut [(Seg.mk atp0 (u32 np1) true)] cuts) fun cut1 =>
  some cut1))

def ref_Check05L1B (l : List Seg) (L1 : UInt64 → Int → Option Int) (sum1 : UInt64) (i1 : Int) : Option Int :=
  br (decide (i1 < (len l)))
  (ob (ix l i1) fun s1 =>
  br (s1.Len == (0 : UInt32))
  (some (2 : Int))
  (ob (ix l i1) fun s2 =>
  ob (ix l i1) fun s3 =>
  ob (ix l i1) fun s4 =>
  br (decide ((s2.At + (s3.Len.toUInt64 - (1 : UInt64))) < s4.At))
  (some (2 : Int))
  (br (decide (i1 > (0 : Int)))
  (ob (ix l (wi (i1 - (1 : Int)))) fun s5 =>
  br (s5.Write)
  (ob (ix l i1) fun s6 =>
  br ((!s6.Write))
  (some (2 : Int))
  (ob (ix l i1) fun s7 =>
  L1 (sum1 + s7.Len.toUInt64) (wi (i1 + (1 : Int)))))
  (ob (ix l i1) fun s8 =>
  L1 (sum1 + s8.Len.toUInt64) (wi (i1 + (1 : Int)))))
  (ob (ix l i1) fun s9 =>
  L1 (sum1 + s9.Len.toUInt64) (wi (i1 + (1 : Int)))))))
  (br (decide (sum1 ≥ (4294967296 : UInt64)))
  (some (2 : Int))
  (some (0 : Int)))

def XV (l : List Seg) : Nat → UInt64 → Int → Option Int
  | 0, _, _ => none
  | nf + 1, sum1, i1 => ref_Check05L1B l (XV l nf) sum1 i1

def ref_Check05 (l : List Seg) : Option Int :=
  br (decide ((len l) > (64 : Int)))
  (some (3 : Int))
  (XV l fuel (0 : UInt64) (0 : Int))

def gmem_CheckL1B (l : List Region) (L1 : UInt64 → Int → Option Int) (room1 : UInt64) (x1 : Int) : Option Int :=
  br (decide (x1 < (len l)))
  (ob (ix l x1) fun r1 =>
  br (decide (r1.Len < (1 : UInt64)))
  (some (2 : Int))
  (br (decide (r1.Len > room1))
  (some (2 : Int))
  (br (decide ((r1.Len - (1 : UInt64)) > ((18446744073709551615 : UInt64) - r1.At)))
  (some (2 : Int))
  (br (decide (x1 > (0 : Int)))
  (ob (ix l (wi (x1 - (1 : Int)))) fun r2 =>
  br (decide (r1.At ≤ r2.At))
  (some (2 : Int))
  (br (decide ((r1.At - r2.At) < r2.Len))
  (some (2 : Int))
  (L1 (room1 - r1.Len) (wi (x1 + (1 : Int))))))
  (L1 (room1 - r1.Len) (wi (x1 + (1 : Int))))))))
  (some (0 : Int))

def YZ (l : List Region) : Nat → UInt64 → Int → Option Int
  | 0, _, _ => none
  | nf + 1, room1, x1 => gmem_CheckL1B l (YZ l nf) room1 x1

def gmem_Check (l : List Region) : Option Int :=
  br (decide ((len l) > (16 : Int)))
  (some (2 : Int))
  (YZ l fuel (1048576 : UInt64) (0 : Int))

def QY (sp0 : List Region) : Option (List Region) :=
  chk (fits ([] : List Region).length sp0.length 16) <|
  some sp0

def gmem_NewL1B (l : List Region) (region1 : (List Region)) (L1 : (List (List UInt8)) → Int → Option ((Option gmem_Mem) × Int)) (rows1 : List (List UInt8)) (x1 : Int) : Option ((Option gmem_Mem) × Int) :=
  br (decide (x1 < (len l)))
  (ob (ix l x1) fun r1 =>
  chk (decide (0 ≤ (r1.Len.toNat : Int) ∧ (r1.Len.toNat : Int) ≤ (r1.Len.toNat : Int) ∧ (1 : Int) * (r1.Len.toNat : Int) ≤ 140737488355328)) <|
  ob (ix rows1 x1) fun row1 =>
  L1 (rows1.set (Int.toNat x1) (List.replicate (Int.toNat (r1.Len.toNat : Int)) (0 : UInt8))) (wi (x1 + (1 : Int))))
  (some ((some (gmem_Mem.mk region1 rows1)), (0 : Int)))

def gmem_NewL1 (l : List Region) (region1 : (List Region)) : Nat → (List (List UInt8)) → Int → Option ((Option gmem_Mem) × Int)
  | 0, _, _ => none
  | nf + 1, rows1, x1 => gmem_NewL1B l region1 (gmem_NewL1 l region1 nf) rows1 x1

def gmem_New (l : List Region) : Option ((Option gmem_Mem) × Int) :=
  ob (gmem_Check l) fun check1 =>
  br (check1 != (0 : Int))
  (some ((none : Option gmem_Mem), check1))
  (ob (QY l) fun region1 =>
  chk (decide (0 ≤ (len l) ∧ (len l) ≤ (wi ((len l) + (1 : Int))) ∧ (24 : Int) * (wi ((len l) + (1 : Int))) ≤ 140737488355328)) <|
  gmem_NewL1 l region1 fuel (List.replicate (Int.toNat (len l)) [] : List (List UInt8)) (0 : Int))

def ref_Check02L1B (l : List Region) (L1 : UInt64 → Int → Option Int) (sum1 : UInt64) (i1 : Int) : Option Int :=
  br (decide (i1 < (len l)))
  (ob (ix l i1) fun r1 =>
  br (r1.Len == (0 : UInt64))
  (some (2 : Int))
  (ob (ix l i1) fun r2 =>
  br (decide (r2.Len > (1048576 : UInt64)))
  (some (2 : Int))
  (ob (ix l i1) fun r3 =>
  ob (ix l i1) fun r4 =>
  ob (ix l i1) fun r5 =>
  br (decide ((r3.At + (r4.Len - (1 : UInt64))) < r5.At))
  (some (2 : Int))
  (ob (ix l i1) fun r6 =>
  br (decide (i1 > (0 : Int)))
  (ob (ix l i1) fun r7 =>
  ob (ix l (wi (i1 - (1 : Int)))) fun r8 =>
  ob (ix l (wi (i1 - (1 : Int)))) fun r9 =>
  br (decide (r7.At ≤ (r8.At + (r9.Len - (1 : UInt64)))))
  (some (2 : Int))
  (L1 (sum1 + r6.Len) (wi (i1 + (1 : Int)))))
  (L1 (sum1 + r6.Len) (wi (i1 + (1 : Int))))))))
  (br (decide (sum1 > (1048576 : UInt64)))
  (some (2 : Int))
  (some (0 : Int)))

def YA (l : List Region) : Nat → UInt64 → Int → Option Int
  | 0, _, _ => none
  | nf + 1, sum1, i1 => ref_Check02L1B l (YA l nf) sum1 i1

def ref_Check02 (l : List Region) : Option Int :=
  br (decide ((len l) > (16 : Int)))
  (some (2 : Int))
  (YA l fuel (0 : UInt64) (0 : Int))

def ref_New02L1B (l : List Region) (L1 : (List Region) → (List (List UInt8)) → Int → Option ((Option dumbwaiterref02_Mem) × Int)) (l1 : List Region) (rows1 : List (List UInt8)) (i1 : Int) : Option ((Option dumbwaiterref02_Mem) × Int) :=
  br (decide (i1 < (len l)))
  (ob (ix l i1) fun r1 =>
  chk (decide (0 ≤ (r1.Len.toNat : Int) ∧ (r1.Len.toNat : Int) ≤ (r1.Len.toNat : Int) ∧ (1 : Int) * (r1.Len.toNat : Int) ≤ 140737488355328)) <|
  chk (fits rows1.length 1 24) <|
  L1 l1 (rows1 ++ [List.replicate (Int.toNat (r1.Len.toNat : Int)) (0 : UInt8)]) (wi (i1 + (1 : Int))))
  (some ((some (dumbwaiterref02_Mem.mk l1 rows1)), (0 : Int)))

def ref_New02L1 (l : List Region) : Nat → (List Region) → (List (List UInt8)) → Int → Option ((Option dumbwaiterref02_Mem) × Int)
  | 0, _, _, _ => none
  | nf + 1, l1, rows1, i1 => ref_New02L1B l (ref_New02L1 l nf) l1 rows1 i1

def ref_New02 (l : List Region) : Option ((Option dumbwaiterref02_Mem) × Int) :=
  ob (ref_Check02 l) fun check1 =>
  br (check1 != (0 : Int))
  (some ((none : Option dumbwaiterref02_Mem), (2 : Int)))
  (chk (fits ([] : List Region).length l.length 16) <|
  ref_New02L1 l fuel l ([] : List (List UInt8)) (0 : Int))

def XF (m : gmem_Mem) : Option Bool :=
  some true

def Yg (ip0 : Int) (arg1 : gmem_Mem) (arg2 : UInt64) : Option Bool :=
  ob (ix arg1.l ip0) fun r1 =>
  ob (ix arg1.l ip0) fun r2 =>
  some (decide (((r1.Len - (1 : UInt64)) + r2.At) ≥ arg2))

def Zv (fc0 : gmem_Mem) (fc1 : UInt64) (L1 : Int → Int → Option Int) (i1 : Int) (j1 : Int) : Option Int :=
  br (decide (i1 < j1))
  (ob (Yg (i64 (XH (u64 (wi (i1 + j1))) ((1 : UInt64).toNat))) fc0 fc1) fun bytes1 =>
  br ((!bytes1))
  (L1 (wi ((i64 (XH (u64 (wi (i1 + j1))) ((1 : UInt64).toNat))) + (1 : Int))) j1)
  (L1 i1 (i64 (XH (u64 (wi (i1 + j1))) ((1 : UInt64).toNat)))))
  (some i1)

def Za (fc0 : gmem_Mem) (fc1 : UInt64) : Nat → Int → Int → Option Int
  | 0, _, _ => none
  | nf + 1, i1, j1 => Zv fc0 fc1 (Za fc0 fc1 nf) i1 j1

def Zo (np0 : Int) (fc0 : gmem_Mem) (fc1 : UInt64) : Option Int :=
  Za fc0 fc1 fuel (0 : Int) np0

def XJ (m : gmem_Mem) (atp1 : UInt64) (np2 : UInt64) : Option (Option (Int × Int × Int)) :=
  br (decide (np2 < (1 : UInt64)))
  (some (none : Option (Int × Int × Int)))
  (ob (Zo (len m.l) m atp1) fun search1 =>
  br (search1 == (len m.l))
  (some (none : Option (Int × Int × Int)))
  (ob (ix m.l search1) fun r1 =>
  br (decide (atp1 < r1.At))
  (some (none : Option (Int × Int × Int)))
  (ob (ix m.l search1) fun r2 =>
  ob (ix m.l search1) fun r3 =>
  br (decide (np2 > (r3.Len - (atp1 - r2.At))))
  (some (none : Option (Int × Int × Int)))
  (ob (ix m.b search1) fun row1 =>
  chk (decide (0 ≤ ((atp1 - r2.At).toNat : Int) ∧ ((atp1 - r2.At).toNat : Int) ≤ (((atp1 - r2.At) + np2).toNat : Int) ∧ (((atp1 - r2.At) + np2).toNat : Int) ≤ len row1)) <|
  some (some (search1, ((atp1 - r2.At).toNat : Int), (((atp1 - r2.At) + np2).toNat : Int)))))))

def Xk (m : gmem_Mem) (atp1 : UInt64) (arg2 : List UInt8) : Option (Int × (List (List UInt8))) :=
  ob (XF m) fun made1 =>
  br ((len arg2) == (0 : Int))
  (some ((0 : Int), m.b))
  (ob (XJ m atp1 (u64 (len arg2))) fun bytes1 =>
  onO bytes1
  (some ((5 : Int), m.b))
  (fun w1 =>
  ob (ix m.b w1.1) fun row1 =>
  chk (decide (0 ≤ w1.2.1 ∧ w1.2.1 ≤ w1.2.2 ∧ w1.2.2 ≤ len row1)) <|
  chk (decide (w1.2.1 < w1.2.2)) <|
  some ((0 : Int), m.b.set (Int.toNat w1.1) (copyAt row1 w1.2.1 w1.2.2 arg2))))

def Ya (f : Frame) : Option Int :=
  br (decide (f.Vlan < ((-1) : Int)))
  (some (2 : Int))
  (br (decide (f.Vlan > (4095 : Int)))
  (some (2 : Int))
  (br (f.Type_ == (33024 : UInt16))
  (some (2 : Int))
  (br (decide ((len f.Data) > (1500 : Int)))
  (some (2 : Int))
  (some (0 : Int)))))

def ZI (np1 : Int)  : Option (List UInt8) :=
  br (decide ((wi (np1 - (wi ((0 : Int) - (0 : Int))))) > (0 : Int)))
  (chk (decide (0 ≤ (wi (np1 - (wi ((0 : Int) - (0 : Int))))) ∧ (1 : Int) * (wi (np1 - (wi ((0 : Int) - (0 : Int))))) ≤ 140737488355328)) <|
  chk (decide (0 ≤ (0 : Int) ∧ (0 : Int) ≤ len (List.replicate (wi (np1 - (wi ((0 : Int) - (0 : Int))))).toNat (0 : UInt8)))) <|
  some ((List.replicate (wi (np1 - (wi ((0 : Int) - (0 : Int))))).toNat (0 : UInt8)).take (0 : Int).toNat))
  (some ([] : List UInt8))

def ZR (np1 : Int) : Option (List UInt8) :=
  chk (!(decide (np1 < (0 : Int)))) <|
  ZI np1

def ZK (x1 : Int) (L1 : Int → Int → Option (List UInt8)) (size2 : Int) : Option (List UInt8) :=
  L1 size2 (wi (x1 + (1 : Int)))

def ZJ (size1 : Int) (x1 : Int) (L1 : Int → Int → Option (List UInt8)) (y1 : List UInt8)  : Option (List UInt8) :=
  ZK x1 L1 (wi (size1 + (len y1)))

def ZT (slices : List (List UInt8)) (L4 : (List UInt8) → Int → Option (List UInt8)) (newslice1 : List UInt8) (x2 : Int) : Option (List UInt8) :=
  br (decide (x2 < (len slices)))
  (ob (ix slices x2) fun y2 =>
  chk (fits newslice1.length y2.length 1) <|
  L4 (newslice1 ++ y2) (wi (x2 + (1 : Int))))
  (some newslice1)

def Zr (slices : List (List UInt8)) : Nat → (List UInt8) → Int → Option (List UInt8)
  | 0, _, _ => none
  | nf + 1, newslice1, x2 => ZT slices (Zr slices nf) newslice1 x2

def ZU (slices : List (List UInt8)) (L1 : Int → Int → Option (List UInt8)) (size1 : Int) (x1 : Int) : Option (List UInt8) :=
  br (decide (x1 < (len slices)))
  (ob (ix slices x1) fun y1 =>
  chk (!(decide ((wi (size1 + (len y1))) < (0 : Int)))) <|
  ZJ size1 x1 L1 y1)
  (ob (ZR size1) fun growby1 =>
  Zr slices fuel growby1 (0 : Int))

def QS (slices : List (List UInt8)) : Nat → Int → Int → Option (List UInt8)
  | 0, _, _ => none
  | nf + 1, size1, x1 => ZU slices (QS slices nf) size1 x1

def Zl (slices : List (List UInt8)) : Option (List UInt8) :=
  QS slices fuel (0 : Int) (0 : Int)

def Yb (f : Frame) (b2 : List UInt8) : Option ((List UInt8) × Int) :=
  chk (fits b2.length [(ZG f.Type_ ((8 : UInt64).toNat)).toUInt8, f.Type_.toUInt8].length 1) <|
  chk (fits (b2 ++ [(ZG f.Type_ ((8 : UInt64).toNat)).toUInt8, f.Type_.toUInt8]).length f.Data.length 1) <|
  some ((b2 ++ [(ZG f.Type_ ((8 : UInt64).toNat)).toUInt8, f.Type_.toUInt8]) ++ f.Data, (0 : Int))

def Yo (f : Frame) : Option ((List UInt8) × Int) :=
  ob (Ya f) fun check1 =>
  br (check1 != (0 : Int))
  (some (([] : List UInt8), check1))
  (ob (Zl [[f.Dst.a0, f.Dst.a1, f.Dst.a2, f.Dst.a3, f.Dst.a4, f.Dst.a5], [f.Src.a0, f.Src.a1, f.Src.a2, f.Src.a3, f.Src.a4, f.Src.a5]]) fun concat1 =>
  br (decide (f.Vlan ≥ (0 : Int)))
  (chk (fits concat1.length [(129 : UInt8), (0 : UInt8), u8 (shri f.Vlan ((8 : UInt64).toNat)), u8 f.Vlan].length 1) <|
  Yb f (concat1 ++ [(129 : UInt8), (0 : UInt8), u8 (shri f.Vlan ((8 : UInt64).toNat)), u8 f.Vlan]))
  (Yb f concat1))

def frame_HdrOfL1B (hp0 : Hdr) (L1 : (List UInt8) → Int → Option (List UInt8)) (l1 : List UInt8) (x1 : Int) : Option (List UInt8) :=
  br (decide (x1 < (3 : Int)))
  (ob (ix [hp0.Start, hp0.Off, hp0.Buffers] x1) fun u1 =>
  ob (ix l1 (wi ((6 : Int) + (wi ((2 : Int) * x1))))) fun y2 =>
  ob (ix (l1.set (wi ((6 : Int) + (wi ((2 : Int) * x1)))).toNat u1.toUInt8) (wi ((7 : Int) + (wi ((2 : Int) * x1))))) fun y3 =>
  L1 ((l1.set (wi ((6 : Int) + (wi ((2 : Int) * x1)))).toNat u1.toUInt8).set (wi ((7 : Int) + (wi ((2 : Int) * x1)))).toNat ((ZG u1 ((8 : UInt64).toNat)).toUInt8)) (wi (x1 + (1 : Int))))
  (some l1)

def frame_HdrOfL1 (hp0 : Hdr) : Nat → (List UInt8) → Int → Option (List UInt8)
  | 0, _, _ => none
  | nf + 1, l1, x1 => frame_HdrOfL1B hp0 (frame_HdrOfL1 hp0 nf) l1 x1

def frame_HdrOf (hp0 : Hdr) : Option (List UInt8) :=
  chk (decide (0 ≤ (12 : Int) ∧ (12 : Int) ≤ (12 : Int) ∧ (1 : Int) * (12 : Int) ≤ 140737488355328)) <|
  ob (ix (List.replicate (12 : Int).toNat (0 : UInt8)) (0 : Int)) fun y1 =>
  frame_HdrOfL1 hp0 fuel ((List.replicate (12 : Int).toNat (0 : UInt8)).set (0 : Int).toNat hp0.Flags) (0 : Int)

def netdrv_LayJ1 (m : gmem_Mem) (atp1 : UInt64) (cuts : List Int) (l1 : List UInt8) (m1 : Hdr) : Option ((List Seg) × Int × (List (List UInt8))) :=
  ob (frame_HdrOf m1) fun hdrof1 =>
  chk (fits hdrof1.length l1.length 1) <|
  ob (Xk m atp1 (hdrof1 ++ l1)) fun write1 =>
  br (write1.1 != (0 : Int))
  (some (([] : List Seg), (5 : Int), write1.2))
  (ob (blkdrv_Cut [(Seg.mk atp1 (u32 (len (hdrof1 ++ l1))) false)] cuts) fun cut1 =>
  some (cut1, (0 : Int), write1.2))

def netdrv_Lay (m : gmem_Mem) (atp1 : UInt64) (f : Frame) (sum : Int) (cuts : List Int) : Option ((List Seg) × Int × (List (List UInt8))) :=
  ob (Yo f) fun bytes1 =>
  br (bytes1.2 != (0 : Int))
  (some (([] : List Seg), bytes1.2, m.b))
  (br (decide (sum ≥ (0 : Int)))
  (br (decide (sum > (wi ((len f.Data) - (2 : Int)))))
  (some (([] : List Seg), (2 : Int), m.b))
  (netdrv_LayJ1 m atp1 cuts bytes1.1 (Hdr.mk (1 : UInt8) (u16 (wi ((len bytes1.1) - (len f.Data)))) (u16 sum) (0 : UInt16))))
  (netdrv_LayJ1 m atp1 cuts bytes1.1 (Hdr.mk (0 : UInt8) (0 : UInt16) (0 : UInt16) (0 : UInt16))))

def Yw (i1 : Int) (L1 : UInt64 → UInt64 → Int → Option (UInt64 × UInt64)) (read2 : UInt64) (write2 : UInt64) : Option (UInt64 × UInt64) :=
  L1 read2 write2 (wi (i1 + (1 : Int)))

def XT (i1 : Int) (L1 : UInt64 → UInt64 → Int → Option (UInt64 × UInt64)) (read3 : UInt64) (write3 : UInt64) : Option (UInt64 × UInt64) :=
  Yw i1 L1 read3 write3

def YH (l : List Seg) (L1 : UInt64 → UInt64 → Int → Option (UInt64 × UInt64)) (read1 : UInt64) (write1 : UInt64) (i1 : Int) : Option (UInt64 × UInt64) :=
  br (decide (i1 < (len l)))
  (ob (ref_Check05 l) fun check1 =>
  br (check1 == (0 : Int))
  (ob (ix l i1) fun s1 =>
  br (s1.Write)
  (ob (ix l i1) fun s2 =>
  XT i1 L1 read1 (write1 + s2.Len.toUInt64))
  (ob (ix l i1) fun s3 =>
  XT i1 L1 (read1 + s3.Len.toUInt64) write1))
  (some (read1, write1)))
  (some (read1, write1))

def ZM (l : List Seg) : Nat → UInt64 → UInt64 → Int → Option (UInt64 × UInt64)
  | 0, _, _, _ => none
  | nf + 1, read1, write1, i1 => YH l (ZM l nf) read1 write1 i1

def ref_Total05 (l : List Seg) : Option (UInt64 × UInt64) :=
  ZM l fuel (0 : UInt64) (0 : UInt64) (0 : Int)

def Kj (set : UInt64) (bit : Int) : Option Bool :=
  br (decide (bit ≥ (0 : Int)))
  (br (decide (bit < (64 : Int)))
  (some (((XH set ((u64 bit).toNat)) % (2 : UInt64)) == (1 : UInt64)))
  (some false))
  (some false)

def YI (feats : UInt64) (bufs : List (List Seg)) (np2 : Int) (L1 : UInt64 → Int → Option (Int × Bool)) (sum1 : UInt64) (i1 : Int) : Option (Int × Bool) :=
  br (decide (i1 < (len bufs)))
  (ob (ix bufs i1) fun y1 =>
  ob (ref_Total05 y1) fun total1 =>
  br (total1.2 == (0 : UInt64))
  (some ((0 : Int), false))
  (br (i1 == (0 : Int))
  (br (decide (total1.2 < (12 : UInt64)))
  (some ((0 : Int), false))
  (br (decide ((sum1 + total1.2) ≥ (u64 (maxi np2 (12 : Int)))))
  (some (wi (i1 + (1 : Int)), true))
  (ob (Kj feats (15 : Int)) fun has1 =>
  br ((!has1))
  (some ((0 : Int), false))
  (L1 (sum1 + total1.2) (wi (i1 + (1 : Int)))))))
  (br (decide ((sum1 + total1.2) ≥ (u64 (maxi np2 (12 : Int)))))
  (some (wi (i1 + (1 : Int)), true))
  (ob (Kj feats (15 : Int)) fun has2 =>
  br ((!has2))
  (some ((0 : Int), false))
  (L1 (sum1 + total1.2) (wi (i1 + (1 : Int))))))))
  (some ((0 : Int), false))

def XD (feats : UInt64) (bufs : List (List Seg)) (np2 : Int) : Nat → UInt64 → Int → Option (Int × Bool)
  | 0, _, _ => none
  | nf + 1, sum1, i1 => YI feats bufs np2 (XD feats bufs np2 nf) sum1 i1

def ref_Needs25 (feats : UInt64) (bufs : List (List Seg)) (np2 : Int) : Option (Int × Bool) :=
  XD feats bufs np2 fuel (0 : UInt64) (0 : Int)

def Yx (m : dumbwaiterref02_Mem) (atp1 : UInt64) (np2 : UInt64) (L1 : Int → Option (Int × Int)) (i1 : Int) : Option (Int × Int) :=
  br (decide (i1 < (len m.L)))
  (ob (ix m.L i1) fun r1 =>
  br (decide (np2 ≥ (1 : UInt64)))
  (br (decide (atp1 ≥ r1.At))
  (br (decide (np2 ≤ r1.Len))
  (br (decide ((atp1 - r1.At) ≤ (r1.Len - np2)))
  (some (i1, i64 (atp1 - r1.At)))
  (L1 (wi (i1 + (1 : Int)))))
  (L1 (wi (i1 + (1 : Int)))))
  (L1 (wi (i1 + (1 : Int)))))
  (L1 (wi (i1 + (1 : Int)))))
  (some (((-1) : Int), (0 : Int)))

def Xd (m : dumbwaiterref02_Mem) (atp1 : UInt64) (np2 : UInt64) : Nat → Int → Option (Int × Int)
  | 0, _ => none
  | nf + 1, i1 => Yx m atp1 np2 (Xd m atp1 np2 nf) i1

def Yi (m : dumbwaiterref02_Mem) (atp1 : UInt64) (np2 : UInt64) : Option (Int × Int) :=
  Xd m atp1 np2 fuel (0 : Int)

def Ki (m : dumbwaiterref02_Mem) (atp1 : UInt64) (np2 : UInt64) : Option Bool :=
  ob (Yi m atp1 np2) fun Yp =>
  some (decide (Yp.1 ≥ (0 : Int)))

def ref_In05L1B (m : dumbwaiterref02_Mem) (l : List Seg) (L1 : Int → Int → Option Int) (e1 : Int) (i1 : Int) : Option Int :=
  br (decide (i1 < (len l)))
  (br (e1 == (0 : Int))
  (ob (ix l i1) fun s1 =>
  ob (ix l i1) fun s2 =>
  ob (Ki m s1.At s2.Len.toUInt64) fun has1 =>
  br ((!has1))
  (L1 (5 : Int) (wi (i1 + (1 : Int))))
  (L1 e1 (wi (i1 + (1 : Int)))))
  (some e1))
  (some e1)

def Yy (m : dumbwaiterref02_Mem) (l : List Seg) : Nat → Int → Int → Option Int
  | 0, _, _ => none
  | nf + 1, e1, i1 => ref_In05L1B m l (Yy m l nf) e1 i1

def ref_In05 (m : dumbwaiterref02_Mem) (l : List Seg) : Option Int :=
  ob (ref_Check05 l) fun check1 =>
  Yy m l fuel check1 (0 : Int)

def XM (m : dumbwaiterref02_Mem) (atp1 : UInt64) (b : List UInt8) : Option (Int × (List (List UInt8))) :=
  br ((len b) == (0 : Int))
  (some ((0 : Int), m.B))
  (ob (Yi m atp1 (u64 (len b))) fun Yp =>
  br (decide (Yp.1 < (0 : Int)))
  (some ((5 : Int), m.B))
  (ob (ix m.B Yp.1) fun row1 =>
  chk (decide (0 ≤ Yp.2 ∧ Yp.2 ≤ (len row1) ∧ (len row1) ≤ len row1)) <|
  some ((0 : Int), m.B.set (Int.toNat Yp.1) (copyAt row1 Yp.2 (len row1) b))))

def XL (i1 : Int) (L1 : (List (List UInt8)) → Int → Int → Option (Int × Int × (List (List UInt8)))) (rows2 : List (List UInt8)) (n2 : Int) : Option (Int × Int × (List (List UInt8))) :=
  L1 rows2 n2 (wi (i1 + (1 : Int)))

def Xp (i1 : Int) (L1 : (List (List UInt8)) → Int → Int → Option (Int × Int × (List (List UInt8)))) (rows3 : List (List UInt8)) (n3 : Int) : Option (Int × Int × (List (List UInt8))) :=
  XL i1 L1 rows3 n3

def YO (m : dumbwaiterref02_Mem) (l : List Seg) (b : List UInt8) (L1 : (List (List UInt8)) → Int → Int → Option (Int × Int × (List (List UInt8)))) (rows1 : List (List UInt8)) (n1 : Int) (i1 : Int) : Option (Int × Int × (List (List UInt8))) :=
  br (decide (i1 < (len l)))
  (ob (ix l i1) fun s1 =>
  br (s1.Write)
  (ob (ix l i1) fun s2 =>
  ob (ix l i1) fun s3 =>
  chk (decide (0 ≤ n1 ∧ n1 ≤ (wi (n1 + (mini (wi ((len b) - n1)) (i32 s2.Len)))) ∧ (wi (n1 + (mini (wi ((len b) - n1)) (i32 s2.Len)))) ≤ len b)) <|
  ob (XM (dumbwaiterref02_Mem.mk m.L rows1) s3.At (sub b n1 (wi (n1 + (mini (wi ((len b) - n1)) (i32 s2.Len)))))) fun write1 =>
  Xp i1 L1 write1.2 (wi (n1 + (mini (wi ((len b) - n1)) (i32 s2.Len)))))
  (Xp i1 L1 rows1 n1))
  (some (n1, (0 : Int), rows1))

def ZC (m : dumbwaiterref02_Mem) (l : List Seg) (b : List UInt8) : Nat → (List (List UInt8)) → Int → Int → Option (Int × Int × (List (List UInt8)))
  | 0, _, _, _ => none
  | nf + 1, rows1, n1, i1 => YO m l b (ZC m l b nf) rows1 n1 i1

def XU (m : dumbwaiterref02_Mem) (l : List Seg) (b : List UInt8) : Option (Int × Int × (List (List UInt8))) :=
  ob (ref_In05 m l) fun in1 =>
  br (in1 != (0 : Int))
  (some ((0 : Int), in1, m.B))
  (ZC m l b fuel m.B (0 : Int) (0 : Int))

def ref_Check23 (f : Frame) : Option Int :=
  br (decide (f.Vlan < ((-1) : Int)))
  (some (2 : Int))
  (br (decide (f.Vlan > (4095 : Int)))
  (some (2 : Int))
  (br (f.Type_ == (33024 : UInt16))
  (some (2 : Int))
  (br (decide ((len f.Data) > (1500 : Int)))
  (some (2 : Int))
  (some (0 : Int)))))

def Xi  (Dst3 : A6 UInt8) (Src3 : A6 UInt8) (Vlan3 : Int) (Type3 : UInt16) (Data3 : List UInt8) (b4 : List UInt8) : Option ((List UInt8) × Int) :=
  chk (fits b4.length [(ZG Type3 ((8 : UInt64).toNat)).toUInt8, Type3.toUInt8].length 1) <|
  chk (fits (b4 ++ [(ZG Type3 ((8 : UInt64).toNat)).toUInt8, Type3.toUInt8]).length Data3.length 1) <|
  some ((b4 ++ [(ZG Type3 ((8 : UInt64).toNat)).toUInt8, Type3.toUInt8]) ++ Data3, (0 : Int))

def ref_Bytes23L2B  (L2 : (A6 UInt8) → (A6 UInt8) → Int → UInt16 → (List UInt8) → (List UInt8) → Int → Option ((List UInt8) × Int)) (Dst2 : A6 UInt8) (Src2 : A6 UInt8) (Vlan2 : Int) (Type2 : UInt16) (Data2 : List UInt8) (b3 : List UInt8) (i2 : Int) : Option ((List UInt8) × Int) :=
  br (decide (i2 < (6 : Int)))
  (chk (decide (0 ≤ i2 ∧ i2 < (6 : Int))) <|
  ob (ix [Src2.a0, Src2.a1, Src2.a2, Src2.a3, Src2.a4, Src2.a5] i2) fun u2 =>
  chk (fits b3.length [u2].length 1) <|
  L2 Dst2 Src2 Vlan2 Type2 Data2 (b3 ++ [u2]) (wi (i2 + (1 : Int))))
  (br (decide (Vlan2 ≥ (0 : Int)))
  (chk (fits b3.length [(129 : UInt8), (0 : UInt8), u8 (shri Vlan2 ((8 : UInt64).toNat)), u8 Vlan2].length 1) <|
  Xi Dst2 Src2 Vlan2 Type2 Data2 (b3 ++ [(129 : UInt8), (0 : UInt8), u8 (shri Vlan2 ((8 : UInt64).toNat)), u8 Vlan2]))
  (Xi Dst2 Src2 Vlan2 Type2 Data2 b3))

def ref_Bytes23L2  : Nat → (A6 UInt8) → (A6 UInt8) → Int → UInt16 → (List UInt8) → (List UInt8) → Int → Option ((List UInt8) × Int)
  | 0, _, _, _, _, _, _, _ => none
  | nf + 1, Dst2, Src2, Vlan2, Type2, Data2, b3, i2 => ref_Bytes23L2B (ref_Bytes23L2 nf) Dst2 Src2 Vlan2 Type2 Data2 b3 i2

def ref_Bytes23L1B  (L1 : (A6 UInt8) → (A6 UInt8) → Int → UInt16 → (List UInt8) → (List UInt8) → Int → Option ((List UInt8) × Int)) (Dst1 : A6 UInt8) (Src1 : A6 UInt8) (Vlan1 : Int) (Type1 : UInt16) (Data1 : List UInt8) (b2 : List UInt8) (i1 : Int) : Option ((List UInt8) × Int) :=
  br (decide (i1 < (6 : Int)))
  (chk (decide (0 ≤ i1 ∧ i1 < (6 : Int))) <|
  ob (ix [Dst1.a0, Dst1.a1, Dst1.a2, Dst1.a3, Dst1.a4, Dst1.a5] i1) fun u1 =>
  chk (fits b2.length [u1].length 1) <|
  L1 Dst1 Src1 Vlan1 Type1 Data1 (b2 ++ [u1]) (wi (i1 + (1 : Int))))
  (ref_Bytes23L2 fuel Dst1 Src1 Vlan1 Type1 Data1 b2 (0 : Int))

def Kk  : Nat → (A6 UInt8) → (A6 UInt8) → Int → UInt16 → (List UInt8) → (List UInt8) → Int → Option ((List UInt8) × Int)
  | 0, _, _, _, _, _, _, _ => none
  | nf + 1, Dst1, Src1, Vlan1, Type1, Data1, b2, i1 => ref_Bytes23L1B (Kk nf) Dst1 Src1 Vlan1 Type1 Data1 b2 i1

def ref_Bytes23 (f : Frame) : Option ((List UInt8) × Int) :=
  ob (ref_Check23 f) fun check1 =>
  br (check1 != (0 : Int))
  (some (([] : List UInt8), check1))
  (Kk fuel f.Dst f.Src f.Vlan f.Type_ f.Data [] (0 : Int))

def ref_HdrOf23 (hp0 : Hdr) : Option (List UInt8) :=
  some [hp0.Flags, (0 : UInt8), (0 : UInt8), (0 : UInt8), (0 : UInt8), (0 : UInt8), hp0.Start.toUInt8, (ZG hp0.Start ((8 : UInt64).toNat)).toUInt8, hp0.Off.toUInt8, (ZG hp0.Off ((8 : UInt64).toNat)).toUInt8, hp0.Buffers.toUInt8, (ZG hp0.Buffers ((8 : UInt64).toNat)).toUInt8]

def YP (m : dumbwaiterref02_Mem) (bufs : List (List Seg)) (needs1 : (Int × Bool)) (L3 : (List (List UInt8)) → (List UInt8) → (List UInt32) → Int → Option ((List UInt32) × Int × (List (List UInt8)))) (rows1 : List (List UInt8)) (b3 : List UInt8) (out1 : List UInt32) (i2 : Int) : Option ((List UInt32) × Int × (List (List UInt8))) :=
  br (decide (i2 < needs1.1))
  (ob (ix bufs i2) fun y2 =>
  ob (XU (dumbwaiterref02_Mem.mk m.L rows1) y2 b3) fun scatte1 =>
  chk (fits out1.length [u32 scatte1.1].length 4) <|
  chk (decide (0 ≤ scatte1.1 ∧ scatte1.1 ≤ (len b3) ∧ (len b3) ≤ len b3)) <|
  L3 scatte1.2.2 (sub b3 scatte1.1 (len b3)) (out1 ++ [u32 scatte1.1]) (wi (i2 + (1 : Int))))
  (some (out1, (0 : Int), rows1))

def XN (m : dumbwaiterref02_Mem) (bufs : List (List Seg)) (needs1 : (Int × Bool)) : Nat → (List (List UInt8)) → (List UInt8) → (List UInt32) → Int → Option ((List UInt32) × Int × (List (List UInt8)))
  | 0, _, _, _, _ => none
  | nf + 1, rows1, b3, out1, i2 => YP m bufs needs1 (XN m bufs needs1 nf) rows1 b3 out1 i2

def ZN (m : dumbwaiterref02_Mem) (bufs : List (List Seg)) (bytes1 : ((List UInt8) × Int)) (needs1 : (Int × Bool)) (m1 : Hdr) : Option ((List UInt32) × Int × (List (List UInt8))) :=
  ob (ref_HdrOf23 m1) fun hdrof1 =>
  chk (fits hdrof1.length bytes1.1.length 1) <|
  XN m bufs needs1 fuel m.B (hdrof1 ++ bytes1.1) [] (0 : Int)

def YQ (m : dumbwaiterref02_Mem) (feats : UInt64) (bufs : List (List Seg)) (bytes1 : ((List UInt8) × Int)) (needs1 : (Int × Bool)) (L1 : Int → Option ((List UInt32) × Int × (List (List UInt8)))) (i1 : Int) : Option ((List UInt32) × Int × (List (List UInt8))) :=
  br (decide (i1 < needs1.1))
  (ob (ix bufs i1) fun y1 =>
  ob (ref_In05 m y1) fun in1 =>
  br (in1 != (0 : Int))
  (some (([] : List UInt32), in1, m.B))
  (L1 (wi (i1 + (1 : Int)))))
  (ob (Kj feats (1 : Int)) fun has1 =>
  br (has1)
  (ZN m bufs bytes1 needs1 (Hdr.mk (2 : UInt8) (0 : UInt16) (0 : UInt16) (u16 needs1.1)))
  (ZN m bufs bytes1 needs1 (Hdr.mk (0 : UInt8) (0 : UInt16) (0 : UInt16) (u16 needs1.1))))

def Xr (m : dumbwaiterref02_Mem) (feats : UInt64) (bufs : List (List Seg)) (bytes1 : ((List UInt8) × Int)) (needs1 : (Int × Bool)) : Nat → Int → Option ((List UInt32) × Int × (List (List UInt8)))
  | 0, _ => none
  | nf + 1, i1 => YQ m feats bufs bytes1 needs1 (Xr m feats bufs bytes1 needs1 nf) i1

def Yz (m : dumbwaiterref02_Mem) (feats : UInt64) (bufs : List (List Seg)) (f : Frame) : Option ((List UInt32) × Int × (List (List UInt8))) :=
  ob (ref_Bytes23 f) fun bytes1 =>
  br (bytes1.2 != (0 : Int))
  (some (([] : List UInt32), bytes1.2, m.B))
  (ob (ref_Needs25 feats bufs (wi ((12 : Int) + (len bytes1.1)))) fun needs1 =>
  br ((!needs1.2))
  (some (([] : List UInt32), (7 : Int), m.B))
  (Xr m feats bufs bytes1 needs1 fuel (0 : Int)))

def Yk (m : dumbwaiterref02_Mem) (L1 : (List UInt8) → Int → Option (List UInt8)) (out1 : List UInt8) (i1 : Int) : Option (List UInt8) :=
  br (decide (i1 < (len m.B)))
  (ob (ix m.B i1) fun row1 =>
  chk (fits out1.length row1.length 1) <|
  L1 (out1 ++ row1) (wi (i1 + (1 : Int))))
  (some out1)

def Xm (m : dumbwaiterref02_Mem) : Nat → (List UInt8) → Int → Option (List UInt8)
  | 0, _, _ => none
  | nf + 1, out1, i1 => Yk m (Xm m nf) out1 i1

def Xq (m : dumbwaiterref02_Mem) : Option (List UInt8) :=
  Xm m fuel [] (0 : Int)

def netdrv_from (m : gmem_Mem) (bufs : List (List Seg)) (written : List UInt32) : Option (Option Clo66) :=
  some (some (Clo66.mk bufs written))

def Xs (ip0 : Int) (arg1 : List UInt8) : Option UInt16 :=
  ob (ix arg1 ip0) fun y1 =>
  ob (ix arg1 (wi (ip0 + (1 : Int)))) fun y2 =>
  some (y1.toUInt16 ||| (shl16 y2.toUInt16 ((8 : UInt64).toNat)))

def Zp (b : List UInt8) : Option (Hdr × Int) :=
  br (decide ((len b) < (12 : Int)))
  (some ((Hdr.mk (0 : UInt8) (0 : UInt16) (0 : UInt16) (0 : UInt16)), (4 : Int)))
  (ob (ix b (0 : Int)) fun y1 =>
  ob (Xs (6 : Int) b) fun readhd1 =>
  ob (Xs (8 : Int) b) fun readhd2 =>
  ob (Xs (10 : Int) b) fun readhd3 =>
  some ((Hdr.mk y1 readhd1 readhd2 readhd3), (0 : Int)))

def Ka (b : List UInt8) : Option UInt16 :=
  ob (ix b (0 : Int)) fun y1 =>
  ob (ix b (1 : Int)) fun y2 =>
  some ((shl16 y1.toUInt16 ((8 : UInt64).toNat)) ||| y2.toUInt16)

def Zg (sp0 : List UInt8) : Option (List UInt8) :=
  chk (fits ([] : List UInt8).length sp0.length 1) <|
  some sp0

def Yn  (Dst1 : A6 UInt8) (Src1 : A6 UInt8) (Vlan1 : Int) (Type1 : UInt16) (Data1 : List UInt8) (Dst2 : A6 UInt8) (Src2 : A6 UInt8) (Vlan2 : Int) (Type2 : UInt16) (Data2 : List UInt8) (rest1 : List UInt8) : Option (Frame × Int) :=
  ob (Ka rest1) fun word2 =>
  chk (decide (0 ≤ (2 : Int) ∧ (2 : Int) ≤ (len rest1) ∧ (len rest1) ≤ len rest1)) <|
  ob (Zg (sub rest1 (2 : Int) (len rest1))) fun cloneb1 =>
  ob (Ya (Frame.mk Dst2 Src2 Vlan2 word2 cloneb1)) fun check1 =>
  br (check1 != (0 : Int))
  (some ((Frame.mk (A6.mk (0 : UInt8) (0 : UInt8) (0 : UInt8) (0 : UInt8) (0 : UInt8) (0 : UInt8)) (A6.mk (0 : UInt8) (0 : UInt8) (0 : UInt8) (0 : UInt8) (0 : UInt8) (0 : UInt8)) (0 : Int) (0 : UInt16) ([] : List UInt8)), (4 : Int)))
  (some ((Frame.mk Dst2 Src2 Vlan2 word2 cloneb1), (0 : Int)))

def XB (b : List UInt8) : Option (Frame × Int) :=
  br (decide ((len b) < (14 : Int)))
  (some ((Frame.mk (A6.mk (0 : UInt8) (0 : UInt8) (0 : UInt8) (0 : UInt8) (0 : UInt8) (0 : UInt8)) (A6.mk (0 : UInt8) (0 : UInt8) (0 : UInt8) (0 : UInt8) (0 : UInt8) (0 : UInt8)) (0 : Int) (0 : UInt16) ([] : List UInt8)), (4 : Int)))
  (chk (decide (0 ≤ (0 : Int) ∧ (0 : Int) ≤ (6 : Int) ∧ (6 : Int) ≤ len b)) <|
  chk (Nat.ble 6 (sub b (0 : Int) (6 : Int)).length) <|
  ob (A6.ofL ((sub b (0 : Int) (6 : Int)).take 6)) fun a1 =>
  chk (decide (0 ≤ (6 : Int) ∧ (6 : Int) ≤ (12 : Int) ∧ (12 : Int) ≤ len b)) <|
  chk (Nat.ble 6 (sub b (6 : Int) (12 : Int)).length) <|
  ob (A6.ofL ((sub b (6 : Int) (12 : Int)).take 6)) fun a2 =>
  chk (decide (0 ≤ (12 : Int) ∧ (12 : Int) ≤ (len b) ∧ (len b) ≤ len b)) <|
  ob (Ka (sub b (12 : Int) (len b))) fun word1 =>
  br (word1 == (33024 : UInt16))
  (br (decide ((len (sub b (12 : Int) (len b))) < (6 : Int)))
  (some ((Frame.mk (A6.mk (0 : UInt8) (0 : UInt8) (0 : UInt8) (0 : UInt8) (0 : UInt8) (0 : UInt8)) (A6.mk (0 : UInt8) (0 : UInt8) (0 : UInt8) (0 : UInt8) (0 : UInt8) (0 : UInt8)) (0 : Int) (0 : UInt16) ([] : List UInt8)), (4 : Int)))
  (chk (decide (0 ≤ (2 : Int) ∧ (2 : Int) ≤ (len (sub b (12 : Int) (len b))) ∧ (len (sub b (12 : Int) (len b))) ≤ len (sub b (12 : Int) (len b)))) <|
  ob (Ka (sub (sub b (12 : Int) (len b)) (2 : Int) (len (sub b (12 : Int) (len b))))) fun word3 =>
  chk (decide (0 ≤ (4 : Int) ∧ (4 : Int) ≤ (len (sub b (12 : Int) (len b))) ∧ (len (sub b (12 : Int) (len b))) ≤ len (sub b (12 : Int) (len b)))) <|
  Yn (A6.mk (0 : UInt8) (0 : UInt8) (0 : UInt8) (0 : UInt8) (0 : UInt8) (0 : UInt8)) (A6.mk (0 : UInt8) (0 : UInt8) (0 : UInt8) (0 : UInt8) (0 : UInt8) (0 : UInt8)) (0 : Int) (0 : UInt16) ([] : List UInt8) a1 a2 (i16 word3) (0 : UInt16) ([] : List UInt8) (sub (sub b (12 : Int) (len b)) (4 : Int) (len (sub b (12 : Int) (len b))))))
  (Yn (A6.mk (0 : UInt8) (0 : UInt8) (0 : UInt8) (0 : UInt8) (0 : UInt8) (0 : UInt8)) (A6.mk (0 : UInt8) (0 : UInt8) (0 : UInt8) (0 : UInt8) (0 : UInt8) (0 : UInt8)) (0 : Int) (0 : UInt16) ([] : List UInt8) a1 a2 ((-1) : Int) (0 : UInt16) ([] : List UInt8) (sub b (12 : Int) (len b))))

def XG (m : gmem_Mem) (atp1 : UInt64) (np2 : Int) : Option ((List UInt8) × Int) :=
  ob (XF m) fun made1 =>
  br (decide (np2 < (0 : Int)))
  (some (([] : List UInt8), (2 : Int)))
  (br (np2 == (0 : Int))
  (some (([] : List UInt8), (0 : Int)))
  (ob (XJ m atp1 (u64 np2)) fun bytes1 =>
  onO bytes1
  (some (([] : List UInt8), (5 : Int)))
  (fun w1 =>
  ob (ix m.b w1.1) fun row1 =>
  chk (decide (0 ≤ w1.2.1 ∧ w1.2.1 ≤ w1.2.2 ∧ w1.2.2 ≤ len row1)) <|
  chk (decide (w1.2.1 < w1.2.2)) <|
  ob (Zg (sub row1 w1.2.1 w1.2.2)) fun cloneb1 =>
  some (cloneb1, (0 : Int)))))

def gmem_Mem_Has (m : gmem_Mem) (atp1 : UInt64) (np2 : UInt64) : Option Bool :=
  ob (XF m) fun made1 =>
  ob (XJ m atp1 np2) fun bytes1 =>
  onO bytes1
  (some false)
  (fun w1 =>
  ob (ix m.b w1.1) fun row1 =>
  chk (decide (0 ≤ w1.2.1 ∧ w1.2.1 ≤ w1.2.2 ∧ w1.2.2 ≤ len row1)) <|
  chk (decide (w1.2.1 < w1.2.2)) <|
  some true)

def seg_InL1B (m : gmem_Mem) (l : List Seg) (L1 : Int → Option Int) (x1 : Int) : Option Int :=
  br (decide (x1 < (len l)))
  (ob (ix l x1) fun s1 =>
  ob (gmem_Mem_Has m s1.At s1.Len.toUInt64) fun has1 =>
  br ((!has1))
  (some (5 : Int))
  (L1 (wi (x1 + (1 : Int)))))
  (some (0 : Int))

def seg_InL1 (m : gmem_Mem) (l : List Seg) : Nat → Int → Option Int
  | 0, _ => none
  | nf + 1, x1 => seg_InL1B m l (seg_InL1 m l nf) x1

def seg_In (m : gmem_Mem) (l : List Seg) : Option Int :=
  ob (XG m (0 : UInt64) (0 : Int)) fun read1 =>
  br (read1.2 != (0 : Int))
  (some read1.2)
  (ob (Kh l) fun check1 =>
  br (check1 != (0 : Int))
  (some check1)
  (seg_InL1 m l fuel (0 : Int)))

def seg_GatherL1B (m : gmem_Mem) (part1 : (List Seg)) (L1 : (List (List UInt8)) → (List Seg) → Int → Option ((List UInt8) × Int)) (parts1 : List (List UInt8)) (l1 : List Seg) (x1 : Int) : Option ((List UInt8) × Int) :=
  br (decide (x1 < (len part1)))
  (ob (ix l1 x1) fun s1 =>
  ob (XG m s1.At (i32 s1.Len)) fun read1 =>
  br (read1.2 != (0 : Int))
  (some (([] : List UInt8), read1.2))
  (chk (fits parts1.length [read1.1].length 24) <|
  L1 (parts1 ++ [read1.1]) l1 (wi (x1 + (1 : Int)))))
  (ob (Zl parts1) fun concat1 =>
  some (concat1, (0 : Int)))

def YX (m : gmem_Mem) (part1 : (List Seg)) : Nat → (List (List UInt8)) → (List Seg) → Int → Option ((List UInt8) × Int)
  | 0, _, _, _ => none
  | nf + 1, parts1, l1, x1 => seg_GatherL1B m part1 (YX m part1 nf) parts1 l1 x1

def seg_Gather (m : gmem_Mem) (l : List Seg) : Option ((List UInt8) × Int) :=
  ob (seg_In m l) fun in1 =>
  br (in1 != (0 : Int))
  (some (([] : List UInt8), in1))
  (ob (seg_Part l false) fun part1 =>
  YX m part1 fuel [] part1 (0 : Int))

def XW (m : gmem_Mem) (np2 : UInt32) (part1 : (List Seg)) (L1 : (List Seg) → Int → Option ((List UInt8) × Int)) (l1 : List Seg) (x1 : Int) : Option ((List UInt8) × Int) :=
  br (decide (x1 < (len part1)))
  (ob (ix l1 x1) fun s1 =>
  L1 (l1.set x1.toNat (Seg.mk s1.At s1.Len false)) (wi (x1 + (1 : Int))))
  (ob (seg_Cut l1 (0 : UInt64) np2.toUInt64) fun cut1 =>
  ob (seg_Gather m cut1) fun gather1 =>
  some (gather1.1, gather1.2))

def ZY (m : gmem_Mem) (np2 : UInt32) (part1 : (List Seg)) : Nat → (List Seg) → Int → Option ((List UInt8) × Int)
  | 0, _, _ => none
  | nf + 1, l1, x1 => XW m np2 part1 (ZY m np2 part1 nf) l1 x1

def Yf (m : gmem_Mem) (l : List Seg) (np2 : UInt32) : Option ((List UInt8) × Int) :=
  ob (seg_In m l) fun in1 =>
  br (in1 != (0 : Int))
  (some (([] : List UInt8), in1))
  (ob (seg_Part l true) fun part1 =>
  ob (seg_Total part1) fun total1 =>
  br (decide (np2.toUInt64 > total1.2))
  (some (([] : List UInt8), (4 : Int)))
  (ZY m np2 part1 fuel part1 (0 : Int)))

def YB (arg0 : List (List Seg)) (arg1 : gmem_Mem) (arg2 : List UInt32) : Option ((List UInt8) × (Option Clo66) × Int) :=
  br ((len arg0) == (0 : Int))
  (some (([] : List UInt8), (none : Option Clo66), (4 : Int)))
  (ob (ix arg0 (0 : Int)) fun y1 =>
  ob (ix arg2 (0 : Int)) fun y2 =>
  ob (Yf arg1 y1 y2) fun writte1 =>
  chk (decide (0 ≤ (1 : Int) ∧ (1 : Int) ≤ (len arg0) ∧ (len arg0) ≤ len arg0)) <|
  chk (decide (0 ≤ (1 : Int) ∧ (1 : Int) ≤ (len arg2) ∧ (len arg2) ≤ len arg2)) <|
  ob (netdrv_from arg1 (sub arg0 (1 : Int) (len arg0)) (sub arg2 (1 : Int) (len arg2))) fun from1 =>
  some (writte1.1, from1, writte1.2))

def feat_Has (set : UInt64) (bit : Int) : Option Bool :=
  br (decide (bit ≥ (0 : Int)))
  (br (decide (bit ≤ (63 : Int)))
  (chk (decide (0 ≤ bit)) <|
  some (((XH set bit.toNat) &&& (1 : UInt64)) == (1 : UInt64)))
  (some false))
  (some false)

def netdrv_OneL2B (m : gmem_Mem) (n1 : Int) (L2 : (A6 UInt8) → (A6 UInt8) → Int → UInt16 → (List UInt8) → (List UInt8) → (Option Clo66) → Int → Option (Frame × Int × Int)) (Dst1 : A6 UInt8) (Src1 : A6 UInt8) (Vlan1 : Int) (Type1 : UInt16) (Data1 : List UInt8) (b3 : List UInt8) (next1 : Option Clo66) (x1 : Int) : Option (Frame × Int × Int) :=
  br (decide (x1 < (wi (n1 - (1 : Int)))))
  (ob (next1) fun clo2 =>
  ob (YB clo2.c0 m clo2.c2) fun from3 =>
  br (from3.2.2 != (0 : Int))
  (some ((Frame.mk (A6.mk (0 : UInt8) (0 : UInt8) (0 : UInt8) (0 : UInt8) (0 : UInt8) (0 : UInt8)) (A6.mk (0 : UInt8) (0 : UInt8) (0 : UInt8) (0 : UInt8) (0 : UInt8) (0 : UInt8)) (0 : Int) (0 : UInt16) ([] : List UInt8)), (0 : Int), from3.2.2))
  (chk (fits b3.length from3.1.length 1) <|
  L2 Dst1 Src1 Vlan1 Type1 Data1 (b3 ++ from3.1) from3.2.1 (wi (x1 + (1 : Int)))))
  (chk (decide (0 ≤ (12 : Int) ∧ (12 : Int) ≤ (len b3) ∧ (len b3) ≤ len b3)) <|
  ob (XB (sub b3 (12 : Int) (len b3))) fun read1 =>
  br (read1.2 != (0 : Int))
  (some ((Frame.mk (A6.mk (0 : UInt8) (0 : UInt8) (0 : UInt8) (0 : UInt8) (0 : UInt8) (0 : UInt8)) (A6.mk (0 : UInt8) (0 : UInt8) (0 : UInt8) (0 : UInt8) (0 : UInt8) (0 : UInt8)) (0 : Int) (0 : UInt16) ([] : List UInt8)), (0 : Int), read1.2))
  (some (read1.1, n1, (0 : Int))))

def YY (m : gmem_Mem) (n1 : Int) : Nat → (A6 UInt8) → (A6 UInt8) → Int → UInt16 → (List UInt8) → (List UInt8) → (Option Clo66) → Int → Option (Frame × Int × Int)
  | 0, _, _, _, _, _, _, _, _ => none
  | nf + 1, Dst1, Src1, Vlan1, Type1, Data1, b3, next1, x1 => netdrv_OneL2B m n1 (YY m n1 nf) Dst1 Src1 Vlan1 Type1 Data1 b3 next1 x1

def Ym (m : gmem_Mem) (bufs : List (List Seg)) (from2 : ((List UInt8) × (Option Clo66) × Int)) (n1 : Int) : Option (Frame × Int × Int) :=
  br (decide (n1 < (1 : Int)))
  (some ((Frame.mk (A6.mk (0 : UInt8) (0 : UInt8) (0 : UInt8) (0 : UInt8) (0 : UInt8) (0 : UInt8)) (A6.mk (0 : UInt8) (0 : UInt8) (0 : UInt8) (0 : UInt8) (0 : UInt8) (0 : UInt8)) (0 : Int) (0 : UInt16) ([] : List UInt8)), (0 : Int), (4 : Int)))
  (br (decide (n1 > (len bufs)))
  (some ((Frame.mk (A6.mk (0 : UInt8) (0 : UInt8) (0 : UInt8) (0 : UInt8) (0 : UInt8) (0 : UInt8)) (A6.mk (0 : UInt8) (0 : UInt8) (0 : UInt8) (0 : UInt8) (0 : UInt8) (0 : UInt8)) (0 : Int) (0 : UInt16) ([] : List UInt8)), (0 : Int), (4 : Int)))
  (YY m n1 fuel (A6.mk (0 : UInt8) (0 : UInt8) (0 : UInt8) (0 : UInt8) (0 : UInt8) (0 : UInt8)) (A6.mk (0 : UInt8) (0 : UInt8) (0 : UInt8) (0 : UInt8) (0 : UInt8) (0 : UInt8)) (0 : Int) (0 : UInt16) ([] : List UInt8) from2.1 from2.2.1 (0 : Int)))

def netdrv_One (m : gmem_Mem) (feats : UInt64) (bufs : List (List Seg)) (written : List UInt32) : Option (Frame × Int × Int) :=
  br ((len bufs) == (0 : Int))
  (some ((Frame.mk (A6.mk (0 : UInt8) (0 : UInt8) (0 : UInt8) (0 : UInt8) (0 : UInt8) (0 : UInt8)) (A6.mk (0 : UInt8) (0 : UInt8) (0 : UInt8) (0 : UInt8) (0 : UInt8) (0 : UInt8)) (0 : Int) (0 : UInt16) ([] : List UInt8)), (0 : Int), (2 : Int)))
  (br ((len bufs) != (len written))
  (some ((Frame.mk (A6.mk (0 : UInt8) (0 : UInt8) (0 : UInt8) (0 : UInt8) (0 : UInt8) (0 : UInt8)) (A6.mk (0 : UInt8) (0 : UInt8) (0 : UInt8) (0 : UInt8) (0 : UInt8) (0 : UInt8)) (0 : Int) (0 : UInt16) ([] : List UInt8)), (0 : Int), (2 : Int)))
  (ob (netdrv_from m bufs written) fun from1 =>
  ob (from1) fun clo1 =>
  ob (YB clo1.c0 m clo1.c2) fun from2 =>
  br (from2.2.2 != (0 : Int))
  (some ((Frame.mk (A6.mk (0 : UInt8) (0 : UInt8) (0 : UInt8) (0 : UInt8) (0 : UInt8) (0 : UInt8)) (A6.mk (0 : UInt8) (0 : UInt8) (0 : UInt8) (0 : UInt8) (0 : UInt8) (0 : UInt8)) (0 : Int) (0 : UInt16) ([] : List UInt8)), (0 : Int), from2.2.2))
  (ob (Zp from2.1) fun readhd1 =>
  br (readhd1.2 != (0 : Int))
  (some ((Frame.mk (A6.mk (0 : UInt8) (0 : UInt8) (0 : UInt8) (0 : UInt8) (0 : UInt8) (0 : UInt8)) (A6.mk (0 : UInt8) (0 : UInt8) (0 : UInt8) (0 : UInt8) (0 : UInt8) (0 : UInt8)) (0 : Int) (0 : UInt16) ([] : List UInt8)), (0 : Int), (4 : Int)))
  (ob (feat_Has feats (15 : Int)) fun has1 =>
  br (has1)
  (Ym m bufs from2 (i16 readhd1.1.Buffers))
  (Ym m bufs from2 (1 : Int))))))

def kit_Frame (ap0 : Frame) (b : Frame) : Option Bool :=
  br (ap0.Dst == b.Dst)
  (br (ap0.Src == b.Src)
  (br (ap0.Vlan == b.Vlan)
  (br (ap0.Type_ == b.Type_)
  (some (ap0.Data == b.Data))
  (some false))
  (some false))
  (some false))
  (some false)

def kit_SameSegsL1B (ap0 : List Seg) (b : List Seg) (L1 : Int → Option Bool) (i1 : Int) : Option Bool :=
  br (decide (i1 < (len ap0)))
  (ob (ix ap0 i1) fun s1 =>
  ob (ix b i1) fun s2 =>
  br (s1 != s2)
  (some false)
  (L1 (wi (i1 + (1 : Int)))))
  (some true)

def kit_SameSegsL1 (ap0 : List Seg) (b : List Seg) : Nat → Int → Option Bool
  | 0, _ => none
  | nf + 1, i1 => kit_SameSegsL1B ap0 b (kit_SameSegsL1 ap0 b nf) i1

def kit_SameSegs (ap0 : List Seg) (b : List Seg) : Option Bool :=
  br ((len ap0) != (len b))
  (some false)
  (kit_SameSegsL1 ap0 b fuel (0 : Int))

def law26zlives  : Option Bool :=
  ob (gmem_New [(Region.mk (0 : UInt64) (4096 : UInt64))]) fun new1 =>
  onO new1.1
  (none)
  (fun mem1 =>
  ob (ref_New02 [(Region.mk (0 : UInt64) (4096 : UInt64))]) fun new2 =>
  onO new2.1
  (none)
  (fun mem2 =>
  br (new1.2 != (0 : Int))
  (some false)
  (br (new2.2 != (0 : Int))
  (some false)
  (chk (decide (0 ≤ (10 : Int) ∧ (10 : Int) ≤ (10 : Int) ∧ (1 : Int) * (10 : Int) ≤ 140737488355328)) <|
  ob (netdrv_Lay mem1 (100 : UInt64) (Frame.mk (A6.mk (0 : UInt8) (0 : UInt8) (0 : UInt8) (0 : UInt8) (0 : UInt8) (0 : UInt8)) (A6.mk (0 : UInt8) (0 : UInt8) (0 : UInt8) (0 : UInt8) (0 : UInt8) (0 : UInt8)) ((-1) : Int) (2048 : UInt16) (List.replicate (10 : Int).toNat (0 : UInt8))) ((-1) : Int) [(12 : Int)]) fun lay1 =>
  ob (netdrv_Post (200 : UInt64) (60 : Int) ([] : List Int)) fun post1 =>
  ob (Yz mem2 (0 : UInt64) [post1] (Frame.mk (A6.mk (0 : UInt8) (0 : UInt8) (0 : UInt8) (0 : UInt8) (0 : UInt8) (0 : UInt8)) (A6.mk (0 : UInt8) (0 : UInt8) (0 : UInt8) (0 : UInt8) (0 : UInt8) (0 : UInt8)) ((-1) : Int) (2048 : UInt16) (List.replicate (10 : Int).toNat (0 : UInt8)))) fun delive1 =>
  br (lay1.2.1 != (0 : Int))
  (some false)
  (br (delive1.2.1 != (0 : Int))
  (some false)
  (ob (Xq (dumbwaiterref02_Mem.mk mem2.L delive1.2.2)) fun image1 =>
  ob (Xk (gmem_Mem.mk mem1.l lay1.2.2) (0 : UInt64) image1) fun write1 =>
  br (write1.1 != (0 : Int))
  (some false)
  (ob (netdrv_One (gmem_Mem.mk mem1.l write1.2) (0 : UInt64) [post1] delive1.1) fun one1 =>
  br (one1.2.2 == (0 : Int))
  (br (one1.2.1 == (1 : Int))
  (ob (kit_Frame (Frame.mk (A6.mk (0 : UInt8) (0 : UInt8) (0 : UInt8) (0 : UInt8) (0 : UInt8) (0 : UInt8)) (A6.mk (0 : UInt8) (0 : UInt8) (0 : UInt8) (0 : UInt8) (0 : UInt8) (0 : UInt8)) ((-1) : Int) (2048 : UInt16) (List.replicate (10 : Int).toNat (0 : UInt8))) one1.1) fun frame1 =>
  br (frame1)
  (ob (kit_SameSegs lay1.1 [(Seg.mk (100 : UInt64) (12 : UInt32) false), (Seg.mk (112 : UInt64) (24 : UInt32) false)]) fun samese1 =>
  some samese1)
  (some false))
  (some false))
  (some false))))))))

def ref_ReadHdr23 (b : List UInt8) : Option (Hdr × Int) :=
  br (decide ((len b) < (12 : Int)))
  (some ((Hdr.mk (0 : UInt8) (0 : UInt16) (0 : UInt16) (0 : UInt16)), (4 : Int)))
  (ob (ix b (0 : Int)) fun y1 =>
  ob (ix b (6 : Int)) fun y2 =>
  ob (ix b (7 : Int)) fun y3 =>
  ob (ix b (8 : Int)) fun y4 =>
  ob (ix b (9 : Int)) fun y5 =>
  ob (ix b (10 : Int)) fun y6 =>
  ob (ix b (11 : Int)) fun y7 =>
  some ((Hdr.mk y1 (y2.toUInt16 ||| (shl16 y3.toUInt16 ((8 : UInt64).toNat))) (y4.toUInt16 ||| (shl16 y5.toUInt16 ((8 : UInt64).toNat))) (y6.toUInt16 ||| (shl16 y7.toUInt16 ((8 : UInt64).toNat)))), (0 : Int)))

def law26zmemory  : Option (List Region) :=
  some [(Region.mk (0 : UInt64) (32768 : UInt64))]

def kit_Pick (np0 : Int) (m : Int) : Option Int :=
  br (decide (m < (1 : Int)))
  (some (0 : Int))
  (chk (!(m == 0)) <|
  br (decide ((remi np0 m) < (0 : Int)))
  (some (wi ((remi np0 m) + m)))
  (some (remi np0 m)))

def kit_Segs (l : List Seg) : Option (List Seg) :=
  chk (fits ([] : List Seg).length l.length 16) <|
  some l

def kit_BufsL1B (l : List (List Seg)) (L1 : (List (List Seg)) → Int → Option (List (List Seg))) (out1 : List (List Seg)) (i1 : Int) : Option (List (List Seg)) :=
  br (decide (i1 < (len l)))
  (ob (ix l i1) fun y1 =>
  ob (kit_Segs y1) fun segs1 =>
  chk (fits out1.length [segs1].length 24) <|
  L1 (out1 ++ [segs1]) (wi (i1 + (1 : Int))))
  (some out1)

def kit_BufsL1 (l : List (List Seg)) : Nat → (List (List Seg)) → Int → Option (List (List Seg))
  | 0, _, _ => none
  | nf + 1, out1, i1 => kit_BufsL1B l (kit_BufsL1 l nf) out1 i1

def kit_Bufs (l : List (List Seg)) : Option (List (List Seg)) :=
  kit_BufsL1 l fuel [] (0 : Int)

def YC (m : gmem_Mem) (feats : UInt64) (L1 : (List (List Seg)) → (List UInt32) → (List Frame) → Int → Option ((List Frame) × Int × Int)) (bufs1 : List (List Seg)) (written1 : List UInt32) (out1 : List Frame) (n1 : Int) : Option ((List Frame) × Int × Int) :=
  br (decide ((len bufs1) > (0 : Int)))
  (ob (netdrv_One m feats bufs1 written1) fun one1 =>
  br (one1.2.2 != (0 : Int))
  (some (out1, n1, one1.2.2))
  (chk (fits out1.length [one1.1].length 56) <|
  chk (decide (0 ≤ one1.2.1 ∧ one1.2.1 ≤ (len bufs1) ∧ (len bufs1) ≤ len bufs1)) <|
  chk (decide (0 ≤ one1.2.1 ∧ one1.2.1 ≤ (len written1) ∧ (len written1) ≤ len written1)) <|
  L1 (sub bufs1 one1.2.1 (len bufs1)) (sub written1 one1.2.1 (len written1)) (out1 ++ [one1.1]) (wi (n1 + one1.2.1))))
  (some (out1, n1, (0 : Int)))

def Xz (m : gmem_Mem) (feats : UInt64) : Nat → (List (List Seg)) → (List UInt32) → (List Frame) → Int → Option ((List Frame) × Int × Int)
  | 0, _, _, _, _ => none
  | nf + 1, bufs1, written1, out1, n1 => YC m feats (Xz m feats nf) bufs1 written1 out1 n1

def YJ (m : gmem_Mem) (feats : UInt64) (bufs : List (List Seg)) (written : List UInt32) : Option ((List Frame) × Int × Int) :=
  br ((len bufs) != (len written))
  (some (([] : List Frame), (0 : Int), (2 : Int)))
  (Xz m feats fuel bufs written [] (0 : Int))

def YD (ap0 : List Frame) (b : List Frame) (L1 : Int → Option Bool) (i1 : Int) : Option Bool :=
  br (decide (i1 < (len ap0)))
  (ob (ix ap0 i1) fun f1 =>
  ob (ix b i1) fun f2 =>
  ob (kit_Frame f1 f2) fun frame1 =>
  br ((!frame1))
  (some false)
  (L1 (wi (i1 + (1 : Int)))))
  (some true)

def XA (ap0 : List Frame) (b : List Frame) : Nat → Int → Option Bool
  | 0, _ => none
  | nf + 1, i1 => YD ap0 b (XA ap0 b nf) i1

def YK (ap0 : List Frame) (b : List Frame) : Option Bool :=
  br ((len ap0) != (len b))
  (some false)
  (XA ap0 b fuel (0 : Int))

def Xa (i2 : Int) (L2 : (List (List UInt8)) → (List (List UInt8)) → (List (List Seg)) → (List Frame) → (List UInt32) → Int → Option Bool) (rows3 : List (List UInt8)) (rows4 : List (List UInt8)) (l2 : List (List Seg)) (want2 : List Frame) (written2 : List UInt32) : Option Bool :=
  L2 rows3 rows4 l2 want2 written2 (wi (i2 + (1 : Int)))

def XX (l : List Frame) (feats : UInt64) (mem1 : dumbwaiterref02_Mem) (mem2 : gmem_Mem) (L2 : (List (List UInt8)) → (List (List UInt8)) → (List (List Seg)) → (List Frame) → (List UInt32) → Int → Option Bool) (rows1 : List (List UInt8)) (rows2 : List (List UInt8)) (l1 : List (List Seg)) (want1 : List Frame) (written1 : List UInt32) (i2 : Int) : Option Bool :=
  br (decide (i2 < (len l)))
  (chk (decide (0 ≤ (len written1) ∧ (len written1) ≤ (len l1) ∧ (len l1) ≤ len l1)) <|
  ob (ix l i2) fun f1 =>
  ob (Yz (dumbwaiterref02_Mem.mk mem1.L rows1) feats (sub l1 (len written1) (len l1)) f1) fun delive1 =>
  br (delive1.2.1 != (0 : Int))
  (Xa i2 L2 delive1.2.2 rows2 l1 want1 written1)
  (ob (ix l i2) fun f2 =>
  chk (fits want1.length [f2].length 56) <|
  chk (fits written1.length delive1.1.length 4) <|
  Xa i2 L2 delive1.2.2 rows2 l1 (want1 ++ [f2]) (written1 ++ delive1.1)))
  (ob (Xq (dumbwaiterref02_Mem.mk mem1.L rows1)) fun image1 =>
  ob (Xk (gmem_Mem.mk mem2.l rows2) (0 : UInt64) image1) fun write1 =>
  chk (!(write1.1 != (0 : Int))) <|
  chk (decide (0 ≤ (0 : Int) ∧ (0 : Int) ≤ (len written1) ∧ (len written1) ≤ len l1)) <|
  ob (kit_Bufs (sub l1 (0 : Int) (len written1))) fun bufs1 =>
  ob (YJ (gmem_Mem.mk mem2.l write1.2) feats bufs1 written1) fun collec1 =>
  chk (collec1.2.2 == (0 : Int)) <|
  chk (collec1.2.1 == (len written1)) <|
  ob (YK collec1.1 want1) fun samefr1 =>
  chk (samefr1) <|
  some true)

def Zz (l : List Frame) (feats : UInt64) (mem1 : dumbwaiterref02_Mem) (mem2 : gmem_Mem) : Nat → (List (List UInt8)) → (List (List UInt8)) → (List (List Seg)) → (List Frame) → (List UInt32) → Int → Option Bool
  | 0, _, _, _, _, _, _ => none
  | nf + 1, rows1, rows2, l1, want1, written1, i2 => XX l feats mem1 mem2 (Zz l feats mem1 mem2 nf) rows1 rows2 l1 want1 written1 i2

def XY (l : List Frame) (sizes : List Int) (cuts : List Int) (feats : UInt64) (mem1 : dumbwaiterref02_Mem) (mem2 : gmem_Mem) (L1 : (List (List Seg)) → UInt64 → Int → Option Bool) (posted1 : List (List Seg)) (at1 : UInt64) (i1 : Int) : Option Bool :=
  br (decide (i1 < (len sizes)))
  (ob (ix sizes i1) fun y1 =>
  ob (kit_Pick y1 (1600 : Int)) fun pick1 =>
  ob (netdrv_Post at1 (wi ((1 : Int) + pick1)) cuts) fun post1 =>
  ob (ref_Total05 post1) fun total1 =>
  chk (!(total1.2 != (u64 (wi ((1 : Int) + pick1))))) <|
  chk (fits posted1.length [post1].length 24) <|
  L1 (posted1 ++ [post1]) (at1 + (u64 (wi ((1 : Int) + pick1)))) (wi (i1 + (1 : Int))))
  (Zz l feats mem1 mem2 fuel mem1.B mem2.b posted1 [] [] (0 : Int))

def ZZ (l : List Frame) (sizes : List Int) (cuts : List Int) (feats : UInt64) (mem1 : dumbwaiterref02_Mem) (mem2 : gmem_Mem) : Nat → (List (List Seg)) → UInt64 → Int → Option Bool
  | 0, _, _, _ => none
  | nf + 1, posted1, at1, i1 => XY l sizes cuts feats mem1 mem2 (ZZ l sizes cuts feats mem1 mem2 nf) posted1 at1 i1

def YR (l : List Frame) (sizes : List Int) (cuts : List Int) (feats : UInt64) : Option Bool :=
  ob (law26zlives) fun lives1 =>
  chk (!((!lives1))) <|
  br (decide ((len l) > (20 : Int)))
  (some true)
  (br (decide ((len sizes) > (20 : Int)))
  (some true)
  (br (decide ((len cuts) > (40 : Int)))
  (some true)
  (ob (law26zmemory) fun memory1 =>
  ob (ref_New02 memory1) fun new1 =>
  onO new1.1
  (none)
  (fun mem1 =>
  ob (law26zmemory) fun memory2 =>
  ob (gmem_New memory2) fun new2 =>
  onO new2.1
  (none)
  (fun mem2 =>
  chk (!(new1.2 != (0 : Int))) <|
  chk (!(new2.2 != (0 : Int))) <|
  ZZ l sizes cuts feats mem1 mem2 fuel [] (0 : UInt64) (0 : Int))))))

end Go.Proofs.Ytgcbcnpbnonnjaa
