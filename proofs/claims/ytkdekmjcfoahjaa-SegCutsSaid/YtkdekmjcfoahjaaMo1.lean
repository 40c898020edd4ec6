/- What the functions reckon, as plain words. No statement of the seat is proved here; no condition. -/
import Derived.Test.YtkdekmjcfoahjaaTy
namespace Go.Proofs.Ytkdekmjcfoahjaa

/-- seg.Check$1 -/
def seg_Check_1 (arg0 : Int) (arg1 : UInt64) : Option Int :=
  br (arg0 == (0 : Int))
  (br (decide (arg1 ≥ (4294967296 : UInt64)))
  (some (2 : Int))
  (some arg0))
  (some arg0)

def seg_CheckL1B (l : List Seg) (L1 : Int → UInt64 → Int → Option Int) (m1 : Int) (m2 : UInt64) (x1 : Int) : Option Int :=
  br (decide (x1 < (len l)))
  (ob (ix l x1) fun s1 =>
  br (decide (s1.Len < (1 : UInt32)))
  (ob (seg_Check_1 (2 : Int) m2) fun check1 =>
  some check1)
  (br (decide ((s1.Len.toUInt64 - (1 : UInt64)) > ((18446744073709551615 : UInt64) - s1.At)))
  (ob (seg_Check_1 (2 : Int) m2) fun check2 =>
  some check2)
  (br (decide (x1 > (0 : Int)))
  (ob (ix l (wi (x1 - (1 : Int)))) fun s2 =>
  br (s2.Write)
  (br ((!s1.Write))
  (ob (seg_Check_1 (2 : Int) m2) fun check3 =>
  some check3)
  (L1 m1 (m2 + s1.Len.toUInt64) (wi (x1 + (1 : Int)))))
  (L1 m1 (m2 + s1.Len.toUInt64) (wi (x1 + (1 : Int)))))
  (L1 m1 (m2 + s1.Len.toUInt64) (wi (x1 + (1 : Int)))))))
  (ob (seg_Check_1 (0 : Int) m2) fun check4 =>
  some check4)

def seg_CheckL1 (l : List Seg) : Nat → Int → UInt64 → Int → Option Int
  | 0, _, _, _ => none
  | nf + 1, m1, m2, x1 => seg_CheckL1B l (seg_CheckL1 l nf) m1 m2 x1

/-- seg.Check -/
def seg_Check (l : List Seg) : Option Int :=
  br (decide ((len l) > (64 : Int)))
  (some (3 : Int))
  (seg_CheckL1 l fuel (0 : Int) (0 : UInt64) (0 : Int))

def seg_TotalJ2 (x1 : Int) (L1 : UInt64 → UInt64 → Int → Option (UInt64 × UInt64)) (read2 : UInt64) (write2 : UInt64) : Option (UInt64 × UInt64) :=
  L1 read2 write2 (wi (x1 + (1 : Int)))

def seg_TotalJ3 (x1 : Int) (L1 : UInt64 → UInt64 → Int → Option (UInt64 × UInt64)) (read3 : UInt64) (write3 : UInt64) : Option (UInt64 × UInt64) :=
  seg_TotalJ2 x1 L1 read3 write3

def seg_TotalL1B (l : List Seg) (L1 : UInt64 → UInt64 → Int → Option (UInt64 × UInt64)) (read1 : UInt64) (write1 : UInt64) (x1 : Int) : Option (UInt64 × UInt64) :=
  br (decide (x1 < (len l)))
  (ob (ix l x1) fun s1 =>
  br (s1.Write)
  (seg_TotalJ3 x1 L1 read1 (write1 + s1.Len.toUInt64))
  (seg_TotalJ3 x1 L1 (read1 + s1.Len.toUInt64) write1))
  (some (read1, write1))

def seg_TotalL1 (l : List Seg) : Nat → UInt64 → UInt64 → Int → Option (UInt64 × UInt64)
  | 0, _, _, _ => none
  | nf + 1, read1, write1, x1 => seg_TotalL1B l (seg_TotalL1 l nf) read1 write1 x1

/-- seg.Total -/
def seg_Total (l : List Seg) : Option (UInt64 × UInt64) :=
  ob (seg_Check l) fun check1 =>
  br (check1 != (0 : Int))
  (some ((0 : UInt64), (0 : UInt64)))
  (seg_TotalL1 l fuel (0 : UInt64) (0 : UInt64) (0 : Int))

/-- slices.Clone[[]api.Seg,api.Seg] -/
def slices_Clone_apiSegapiSeg (sp0 : List Seg) : Option (List Seg) :=
  chk (fits ([] : List Seg).length sp0.length 16) <|
  some sp0

def seg_row_eatL1B  (L1 : (List Seg) → UInt64 → (List Seg) → Option ((List Seg) × (List Seg))) (m1 : List Seg) (n1 : UInt64) (out1 : List Seg) : Option ((List Seg) × (List Seg)) :=
  br (decide (n1 > (0 : UInt64)))
  (br (decide ((len m1) > (0 : Int)))
  (ob (ix m1 (0 : Int)) fun s1 =>
  chk (fits out1.length [(Seg.mk s1.At ((minu64 n1 s1.Len.toUInt64).toUInt32) s1.Write)].length 16) <|
  br (decide ((minu64 n1 s1.Len.toUInt64) < s1.Len.toUInt64))
  (chk (decide (0 ≤ (1 : Int) ∧ (1 : Int) ≤ (len m1) ∧ (len m1) ≤ len m1)) <|
  chk (fits [(Seg.mk (s1.At + (minu64 n1 s1.Len.toUInt64)) (s1.Len - ((minu64 n1 s1.Len.toUInt64).toUInt32)) s1.Write)].length (sub m1 (1 : Int) (len m1)).length 16) <|
  some (out1 ++ [(Seg.mk s1.At ((minu64 n1 s1.Len.toUInt64).toUInt32) s1.Write)], [(Seg.mk (s1.At + (minu64 n1 s1.Len.toUInt64)) (s1.Len - ((minu64 n1 s1.Len.toUInt64).toUInt32)) s1.Write)] ++ (sub m1 (1 : Int) (len m1))))
  (chk (decide (0 ≤ (1 : Int) ∧ (1 : Int) ≤ (len m1) ∧ (len m1) ≤ len m1)) <|
  L1 (sub m1 (1 : Int) (len m1)) (n1 - (minu64 n1 s1.Len.toUInt64)) (out1 ++ [(Seg.mk s1.At ((minu64 n1 s1.Len.toUInt64).toUInt32) s1.Write)])))
  (some (out1, m1)))
  (some (out1, m1))

def seg_row_eatL1  : Nat → (List Seg) → UInt64 → (List Seg) → Option ((List Seg) × (List Seg))
  | 0, _, _, _ => none
  | nf + 1, m1, n1, out1 => seg_row_eatL1B (seg_row_eatL1 nf) m1 n1 out1

/-- (*seg.row).eat -/
def seg_row_eat (rp0 : List Seg) (np1 : UInt64) : Option ((List Seg) × (List Seg)) :=
  seg_row_eatL1 fuel rp0 np1 []

/-- seg.Cut -/
def seg_Cut (l : List Seg) (fromp1 : UInt64) (np2 : UInt64) : Option (List Seg) :=
  ob (seg_Check l) fun check1 =>
  br (check1 != (0 : Int))
  (some ([] : List Seg))
  (ob (slices_Clone_apiSegapiSeg l) fun seg1 =>
  ob (seg_row_eat seg1 fromp1) fun eat1 =>
  ob (seg_row_eat eat1.2 np2) fun eat2 =>
  some eat2.1)

def slices_Equal_apiSegapiSegL1B (s1 : List Seg) (s2 : List Seg) (L1 : Int → Option Bool) (x1 : Int) : Option Bool :=
  br (decide (x1 < (len s1)))
  (ob (ix s1 x1) fun s3 =>
  ob (ix s2 x1) fun s4 =>
  br (s3 != s4)
  (some false)
  (L1 (wi (x1 + (1 : Int)))))
  (some true)

def slices_Equal_apiSegapiSegL1 (s1 : List Seg) (s2 : List Seg) : Nat → Int → Option Bool
  | 0, _ => none
  | nf + 1, x1 => slices_Equal_apiSegapiSegL1B s1 s2 (slices_Equal_apiSegapiSegL1 s1 s2 nf) x1

/-- slices.Equal[[]api.Seg,api.Seg] -/
def slices_Equal_apiSegapiSeg (s1 : List Seg) (s2 : List Seg) : Option Bool :=
  br ((len s1) != (len s2))
  (some false)
  (slices_Equal_apiSegapiSegL1 s1 s2 fuel (0 : Int))

/-- seg.Same -/
def seg_Same (ap0 : List Seg) (b : List Seg) : Option Bool :=
  ob (slices_Equal_apiSegapiSeg ap0 b) fun seg1 =>
  some seg1

def seg_PartL1B (l : List Seg) (write : Bool) (L1 : (List Seg) → Int → Option (List Seg)) (out1 : List Seg) (x1 : Int) : Option (List Seg) :=
  br (decide (x1 < (len l)))
  (ob (ix l x1) fun s1 =>
  br (s1.Write == write)
  (chk (fits out1.length [s1].length 16) <|
  L1 (out1 ++ [s1]) (wi (x1 + (1 : Int))))
  (L1 out1 (wi (x1 + (1 : Int)))))
  (some out1)

def seg_PartL1 (l : List Seg) (write : Bool) : Nat → (List Seg) → Int → Option (List Seg)
  | 0, _, _ => none
  | nf + 1, out1, x1 => seg_PartL1B l write (seg_PartL1 l write nf) out1 x1

/-- seg.Part -/
def seg_Part (l : List Seg) (write : Bool) : Option (List Seg) :=
  ob (seg_Check l) fun check1 =>
  br (check1 != (0 : Int))
  (some ([] : List Seg))
  (seg_PartL1 l write fuel [] (0 : Int))

def kit_SameSegsL1B (ap0 : List Seg) (b : List Seg) (L1 : Int → Option Bool) (i1 : Int) : Option Bool :=
  br (decide (i1 < (len ap0)))
  (ob (ix ap0 i1) fun s1 =>
  ob (ix b i1) fun s2 =>
  br (s1 != s2)
  (some false)
  (L1 (wi (i1 + (1 : Int)))))
  (some true)

def kit_SameSegsL1 (ap0 : List Seg) (b : List Seg) : Nat → Int → Option Bool
  | 0, _ => none
  | nf + 1, i1 => kit_SameSegsL1B ap0 b (kit_SameSegsL1 ap0 b nf) i1

/-- dumbwaiterkit.SameSegs -/
def kit_SameSegs (ap0 : List Seg) (b : List Seg) : Option Bool :=
  br ((len ap0) != (len b))
  (some false)
  (kit_SameSegsL1 ap0 b fuel (0 : Int))

/-- dumbwaiterlaw05.lives -/
def law05zlives  : Option Bool :=
  ob (seg_Cut [(Seg.mk (10 : UInt64) (4 : UInt32) false), (Seg.mk (50 : UInt64) (6 : UInt32) false)] (2 : UInt64) (5 : UInt64)) fun cut1 =>
  ob (kit_SameSegs cut1 [(Seg.mk (12 : UInt64) (2 : UInt32) false), (Seg.mk (50 : UInt64) (3 : UInt32) false)]) fun samese1 =>
  br (samese1)
  (ob (seg_Check [(Seg.mk (1 : UInt64) (1 : UInt32) true), (Seg.mk (5 : UInt64) (1 : UInt32) false)]) fun check1 =>
  some (check1 == (2 : Int)))
  (some false)

def law05zSegCutsJ1 (l : List Seg) (fromp1 : UInt64) (np2 : UInt64) (more : UInt64) (total1 : (UInt64 × UInt64)) (cut1 : (List Seg)) (total2 : (UInt64 × UInt64)) (have1 : UInt64) : Option Bool :=
  ob (seg_Cut l (0 : UInt64) (fromp1 % (8589934592 : UInt64))) fun cut2 =>
  ob (seg_Cut l (fromp1 % (8589934592 : UInt64)) (total1.1 + total1.2)) fun cut3 =>
  ob (seg_Total cut2) fun total3 =>
  ob (seg_Total cut3) fun total4 =>
  chk (!((total2.1 + total2.2) != have1)) <|
  chk (!((((total3.1 + total3.2) + total4.1) + total4.2) != (total1.1 + total1.2))) <|
  chk (!((total3.1 + total4.1) != total1.1)) <|
  ob (seg_Check cut1) fun check2 =>
  chk (!(check2 != (0 : Int))) <|
  ob (seg_Cut cut1 (more % (8589934592 : UInt64)) (np2 % (8589934592 : UInt64))) fun cut4 =>
  ob (seg_Cut l ((fromp1 % (8589934592 : UInt64)) + (more % (8589934592 : UInt64))) ((np2 % (8589934592 : UInt64)) - (minu64 (more % (8589934592 : UInt64)) (np2 % (8589934592 : UInt64))))) fun cut5 =>
  ob (seg_Same cut4 cut5) fun same1 =>
  chk (!((!same1))) <|
  ob (seg_Part l false) fun part1 =>
  chk (fits ([] : List Seg).length part1.length 16) <|
  ob (seg_Part l true) fun part2 =>
  chk (fits part1.length part2.length 16) <|
  ob (seg_Same (part1 ++ part2) l) fun same2 =>
  chk (same2) <|
  ob (seg_Cut l (0 : UInt64) (total1.1 + total1.2)) fun cut6 =>
  ob (seg_Same cut6 l) fun same3 =>
  chk (same3) <|
  some true

/-- dumbwaiterlaw05.SegCuts -/
def law05zSegCuts (l : List Seg) (fromp1 : UInt64) (np2 : UInt64) (more : UInt64) : Option Bool :=
  ob (law05zlives) fun lives1 =>
  chk (!((!lives1))) <|
  br (decide ((len l) > (100 : Int)))
  (some true)
  (ob (seg_Check l) fun check1 =>
  br (check1 != (0 : Int))
  (some true)
  (ob (seg_Total l) fun total1 =>
  ob (seg_Cut l (fromp1 % (8589934592 : UInt64)) (np2 % (8589934592 : UInt64))) fun cut1 =>
  ob (seg_Total cut1) fun total2 =>
  br (decide ((fromp1 % (8589934592 : UInt64)) < (total1.1 + total1.2)))
  (law05zSegCutsJ1 l fromp1 np2 more total1 cut1 total2 (minu64 (np2 % (8589934592 : UInt64)) ((total1.1 + total1.2) - (fromp1 % (8589934592 : UInt64)))))
  (law05zSegCutsJ1 l fromp1 np2 more total1 cut1 total2 (0 : UInt64))))
end Go.Proofs.Ytkdekmjcfoahjaa
