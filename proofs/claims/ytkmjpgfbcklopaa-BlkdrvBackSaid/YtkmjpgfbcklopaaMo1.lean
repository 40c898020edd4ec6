/- What the functions reckon, as plain words. No statement of the seat is proved here; no condition. -/
import Derived.Test.YtkmjpgfbcklopaaTy
namespace Go.Proofs.Ytkmjpgfbcklopaa

def ref_Check02L1B (l : List Region) (L1 : UInt64 → Int → Option Int) (sum1 : UInt64) (i1 : Int) : Option Int :=
  br (decide (i1 < (len l)))
  (ob (ix l i1) fun r1 =>
  br (r1.Len == (0 : UInt64))
  (some (2 : Int))
  (ob (ix l i1) fun r2 =>
  br (decide (r2.Len > (1048576 : UInt64)))
  (some (2 : Int))
  (ob (ix l i1) fun r3 =>
  ob (ix l i1) fun r4 =>
  ob (ix l i1) fun r5 =>
  br (decide ((r3.At + (r4.Len - (1 : UInt64))) < r5.At))
  (some (2 : Int))
  (ob (ix l i1) fun r6 =>
  br (decide (i1 > (0 : Int)))
  (ob (ix l i1) fun r7 =>
  ob (ix l (wi (i1 - (1 : Int)))) fun r8 =>
  ob (ix l (wi (i1 - (1 : Int)))) fun r9 =>
  br (decide (r7.At ≤ (r8.At + (r9.Len - (1 : UInt64)))))
  (some (2 : Int))
  (L1 (sum1 + r6.Len) (wi (i1 + (1 : Int)))))
  (L1 (sum1 + r6.Len) (wi (i1 + (1 : Int))))))))
  (br (decide (sum1 > (1048576 : UInt64)))
  (some (2 : Int))
  (some (0 : Int)))

def ref_Check02L1 (l : List Region) : Nat → UInt64 → Int → Option Int
  | 0, _, _ => none
  | nf + 1, sum1, i1 => ref_Check02L1B l (ref_Check02L1 l nf) sum1 i1

/-- dumbwaiterref02.Check -/
def ref_Check02 (l : List Region) : Option Int :=
  br (decide ((len l) > (16 : Int)))
  (some (2 : Int))
  (ref_Check02L1 l fuel (0 : UInt64) (0 : Int))

def ref_New02L1B (l : List Region) (L1 : (List Region) → (List (List UInt8)) → Int → Option ((Option dumbwaiterref02_Mem) × Int)) (l1 : List Region) (rows1 : List (List UInt8)) (i1 : Int) : Option ((Option dumbwaiterref02_Mem) × Int) :=
  br (decide (i1 < (len l)))
  (ob (ix l i1) fun r1 =>
  chk (decide (0 ≤ (r1.Len.toNat : Int) ∧ (r1.Len.toNat : Int) ≤ (r1.Len.toNat : Int) ∧ (1 : Int) * (r1.Len.toNat : Int) ≤ 140737488355328)) <|
  chk (fits rows1.length 1 24) <|
  L1 l1 (rows1 ++ [List.replicate (Int.toNat (r1.Len.toNat : Int)) (0 : UInt8)]) (wi (i1 + (1 : Int))))
  (some ((some (dumbwaiterref02_Mem.mk l1 rows1)), (0 : Int)))

def ref_New02L1 (l : List Region) : Nat → (List Region) → (List (List UInt8)) → Int → Option ((Option dumbwaiterref02_Mem) × Int)
  | 0, _, _, _ => none
  | nf + 1, l1, rows1, i1 => ref_New02L1B l (ref_New02L1 l nf) l1 rows1 i1

/-- dumbwaiterref02.New -/
def ref_New02 (l : List Region) : Option ((Option dumbwaiterref02_Mem) × Int) :=
  ob (ref_Check02 l) fun check1 =>
  br (check1 != (0 : Int))
  (some ((none : Option dumbwaiterref02_Mem), (2 : Int)))
  (chk (fits ([] : List Region).length l.length 16) <|
  ref_New02L1 l fuel l ([] : List (List UInt8)) (0 : Int))

def gmem_CheckL1B (l : List Region) (L1 : UInt64 → Int → Option Int) (room1 : UInt64) (x1 : Int) : Option Int :=
  br (decide (x1 < (len l)))
  (ob (ix l x1) fun r1 =>
  br (decide (r1.Len < (1 : UInt64)))
  (some (2 : Int))
  (br (decide (r1.Len > room1))
  (some (2 : Int))
  (br (decide ((r1.Len - (1 : UInt64)) > ((18446744073709551615 : UInt64) - r1.At)))
  (some (2 : Int))
  (br (decide (x1 > (0 : Int)))
  (ob (ix l (wi (x1 - (1 : Int)))) fun r2 =>
  br (decide (r1.At ≤ r2.At))
  (some (2 : Int))
  (br (decide ((r1.At - r2.At) < r2.Len))
  (some (2 : Int))
  (L1 (room1 - r1.Len) (wi (x1 + (1 : Int))))))
  (L1 (room1 - r1.Len) (wi (x1 + (1 : Int))))))))
  (some (0 : Int))

def gmem_CheckL1 (l : List Region) : Nat → UInt64 → Int → Option Int
  | 0, _, _ => none
  | nf + 1, room1, x1 => gmem_CheckL1B l (gmem_CheckL1 l nf) room1 x1

/-- gmem.Check -/
def gmem_Check (l : List Region) : Option Int :=
  br (decide ((len l) > (16 : Int)))
  (some (2 : Int))
  (gmem_CheckL1 l fuel (1048576 : UInt64) (0 : Int))

/-- slices.Clone[[]api.Region,api.Region] -/
def slices_Clone_apiRegionapiRegion (sp0 : List Region) : Option (List Region) :=
  chk (fits ([] : List Region).length sp0.length 16) <|
  some sp0

def gmem_NewL1B (l : List Region) (region1 : (List Region)) (L1 : (List (List UInt8)) → Int → Option ((Option gmem_Mem) × Int)) (rows1 : List (List UInt8)) (x1 : Int) : Option ((Option gmem_Mem) × Int) :=
  br (decide (x1 < (len l)))
  (ob (ix l x1) fun r1 =>
  chk (decide (0 ≤ (r1.Len.toNat : Int) ∧ (r1.Len.toNat : Int) ≤ (r1.Len.toNat : Int) ∧ (1 : Int) * (r1.Len.toNat : Int) ≤ 140737488355328)) <|
  ob (ix rows1 x1) fun row1 =>
  L1 (rows1.set (Int.toNat x1) (List.replicate (Int.toNat (r1.Len.toNat : Int)) (0 : UInt8))) (wi (x1 + (1 : Int))))
  (some ((some (gmem_Mem.mk region1 rows1)), (0 : Int)))

def gmem_NewL1 (l : List Region) (region1 : (List Region)) : Nat → (List (List UInt8)) → Int → Option ((Option gmem_Mem) × Int)
  | 0, _, _ => none
  | nf + 1, rows1, x1 => gmem_NewL1B l region1 (gmem_NewL1 l region1 nf) rows1 x1

/-- gmem.New -/
def gmem_New (l : List Region) : Option ((Option gmem_Mem) × Int) :=
  ob (gmem_Check l) fun check1 =>
  br (check1 != (0 : Int))
  (some ((none : Option gmem_Mem), check1))
  (ob (slices_Clone_apiRegionapiRegion l) fun region1 =>
  chk (decide (0 ≤ (len l) ∧ (len l) ≤ (wi ((len l) + (1 : Int))) ∧ (24 : Int) * (wi ((len l) + (1 : Int))) ≤ 140737488355328)) <|
  gmem_NewL1 l region1 fuel (List.replicate (Int.toNat (len l)) [] : List (List UInt8)) (0 : Int))

/-- seg.Check$1 -/
def seg_Check_1 (arg0 : Int) (arg1 : UInt64) : Option Int :=
  br (arg0 == (0 : Int))
  (br (decide (arg1 ≥ (4294967296 : UInt64)))
  (some (2 : Int))
  (some arg0))
  (some arg0)

def seg_CheckL1B (l : List Seg) (L1 : Int → UInt64 → Int → Option Int) (m1 : Int) (m2 : UInt64) (x1 : Int) : Option Int :=
  br (decide (x1 < (len l)))
  (ob (ix l x1) fun s1 =>
  br (decide (s1.Len < (1 : UInt32)))
  (ob (seg_Check_1 (2 : Int) m2) fun check1 =>
  some check1)
  (br (decide ((s1.Len.toUInt64 - (1 : UInt64)) > ((18446744073709551615 : UInt64) - s1.At)))
  (ob (seg_Check_1 (2 : Int) m2) fun check2 =>
  some check2)
  (br (decide (x1 > (0 : Int)))
  (ob (ix l (wi (x1 - (1 : Int)))) fun s2 =>
  br (s2.Write)
  (br ((!s1.Write))
  (ob (seg_Check_1 (2 : Int) m2) fun check3 =>
  some check3)
  (L1 m1 (m2 + s1.Len.toUInt64) (wi (x1 + (1 : Int)))))
  (L1 m1 (m2 + s1.Len.toUInt64) (wi (x1 + (1 : Int)))))
  (L1 m1 (m2 + s1.Len.toUInt64) (wi (x1 + (1 : Int)))))))
  (ob (seg_Check_1 (0 : Int) m2) fun check4 =>
  some check4)

def seg_CheckL1 (l : List Seg) : Nat → Int → UInt64 → Int → Option Int
  | 0, _, _, _ => none
  | nf + 1, m1, m2, x1 => seg_CheckL1B l (seg_CheckL1 l nf) m1 m2 x1

/-- seg.Check -/
def seg_Check (l : List Seg) : Option Int :=
  br (decide ((len l) > (64 : Int)))
  (some (3 : Int))
  (seg_CheckL1 l fuel (0 : Int) (0 : UInt64) (0 : Int))

def seg_PartL1B (l : List Seg) (write : Bool) (L1 : (List Seg) → Int → Option (List Seg)) (out1 : List Seg) (x1 : Int) : Option (List Seg) :=
  br (decide (x1 < (len l)))
  (ob (ix l x1) fun s1 =>
  br (s1.Write == write)
  (chk (fits out1.length [s1].length 16) <|
  L1 (out1 ++ [s1]) (wi (x1 + (1 : Int))))
  (L1 out1 (wi (x1 + (1 : Int)))))
  (some out1)

def seg_PartL1 (l : List Seg) (write : Bool) : Nat → (List Seg) → Int → Option (List Seg)
  | 0, _, _ => none
  | nf + 1, out1, x1 => seg_PartL1B l write (seg_PartL1 l write nf) out1 x1

/-- seg.Part -/
def seg_Part (l : List Seg) (write : Bool) : Option (List Seg) :=
  ob (seg_Check l) fun check1 =>
  br (check1 != (0 : Int))
  (some ([] : List Seg))
  (seg_PartL1 l write fuel [] (0 : Int))

def seg_TotalJ2 (x1 : Int) (L1 : UInt64 → UInt64 → Int → Option (UInt64 × UInt64)) (read2 : UInt64) (write2 : UInt64) : Option (UInt64 × UInt64) :=
  L1 read2 write2 (wi (x1 + (1 : Int)))

def seg_TotalJ3 (x1 : Int) (L1 : UInt64 → UInt64 → Int → Option (UInt64 × UInt64)) (read3 : UInt64) (write3 : UInt64) : Option (UInt64 × UInt64) :=
  seg_TotalJ2 x1 L1 read3 write3

def seg_TotalL1B (l : List Seg) (L1 : UInt64 → UInt64 → Int → Option (UInt64 × UInt64)) (read1 : UInt64) (write1 : UInt64) (x1 : Int) : Option (UInt64 × UInt64) :=
  br (decide (x1 < (len l)))
  (ob (ix l x1) fun s1 =>
  br (s1.Write)
  (seg_TotalJ3 x1 L1 read1 (write1 + s1.Len.toUInt64))
  (seg_TotalJ3 x1 L1 (read1 + s1.Len.toUInt64) write1))
  (some (read1, write1))

def seg_TotalL1 (l : List Seg) : Nat → UInt64 → UInt64 → Int → Option (UInt64 × UInt64)
  | 0, _, _, _ => none
  | nf + 1, read1, write1, x1 => seg_TotalL1B l (seg_TotalL1 l nf) read1 write1 x1

/-- seg.Total -/
def seg_Total (l : List Seg) : Option (UInt64 × UInt64) :=
  ob (seg_Check l) fun check1 =>
  br (check1 != (0 : Int))
  (some ((0 : UInt64), (0 : UInt64)))
  (seg_TotalL1 l fuel (0 : UInt64) (0 : UInt64) (0 : Int))

/-- slices.Clone[[]api.Seg,api.Seg] -/
def slices_Clone_apiSegapiSeg (sp0 : List Seg) : Option (List Seg) :=
  chk (fits ([] : List Seg).length sp0.length 16) <|
  some sp0

def seg_row_eatL1B  (L1 : (List Seg) → UInt64 → (List Seg) → Option ((List Seg) × (List Seg))) (m1 : List Seg) (n1 : UInt64) (out1 : List Seg) : Option ((List Seg) × (List Seg)) :=
  br (decide (n1 > (0 : UInt64)))
  (br (decide ((len m1) > (0 : Int)))
  (ob (ix m1 (0 : Int)) fun s1 =>
  chk (fits out1.length [(Seg.mk s1.At ((minu64 n1 s1.Len.toUInt64).toUInt32) s1.Write)].length 16) <|
  br (decide ((minu64 n1 s1.Len.toUInt64) < s1.Len.toUInt64))
  (chk (decide (0 ≤ (1 : Int) ∧ (1 : Int) ≤ (len m1) ∧ (len m1) ≤ len m1)) <|
  chk (fits [(Seg.mk (s1.At + (minu64 n1 s1.Len.toUInt64)) (s1.Len - ((minu64 n1 s1.Len.toUInt64).toUInt32)) s1.Write)].length (sub m1 (1 : Int) (len m1)).length 16) <|
  some (out1 ++ [(Seg.mk s1.At ((minu64 n1 s1.Len.toUInt64).toUInt32) s1.Write)], [(Seg.mk (s1.At + (minu64 n1 s1.Len.toUInt64)) (s1.Len - ((minu64 n1 s1.Len.toUInt64).toUInt32)) s1.Write)] ++ (sub m1 (1 : Int) (len m1))))
  (chk (decide (0 ≤ (1 : Int) ∧ (1 : Int) ≤ (len m1) ∧ (len m1) ≤ len m1)) <|
  L1 (sub m1 (1 : Int) (len m1)) (n1 - (minu64 n1 s1.Len.toUInt64)) (out1 ++ [(Seg.mk s1.At ((minu64 n1 s1.Len.toUInt64).toUInt32) s1.Write)])))
  (some (out1, m1)))
  (some (out1, m1))

def seg_row_eatL1  : Nat → (List Seg) → UInt64 → (List Seg) → Option ((List Seg) × (List Seg))
  | 0, _, _, _ => none
  | nf + 1, m1, n1, out1 => seg_row_eatL1B (seg_row_eatL1 nf) m1 n1 out1

/-- (*seg.row).eat -/
def seg_row_eat (rp0 : List Seg) (np1 : UInt64) : Option ((List Seg) × (List Seg)) :=
  seg_row_eatL1 fuel rp0 np1 []

/-- seg.Cut -/
def seg_Cut (l : List Seg) (fromp1 : UInt64) (np2 : UInt64) : Option (List Seg) :=
  ob (seg_Check l) fun check1 =>
  br (check1 != (0 : Int))
  (some ([] : List Seg))
  (ob (slices_Clone_apiSegapiSeg l) fun seg1 =>
  ob (seg_row_eat seg1 fromp1) fun eat1 =>
  ob (seg_row_eat eat1.2 np2) fun eat2 =>
  some eat2.1)

def blkdrv_splitJ2 (at1 : UInt64) (i1 : Int) (L1 : (List Seg) → Int → UInt64 → Int → Option (List Seg)) (y3 : Int) (cut1 : (List Seg)) (cut2 : (List Seg)) (more2 : Int) : Option (List Seg) :=
  L1 (cut1 ++ cut2) more2 (at1 + (u64 y3)) (wi (i1 + (1 : Int)))

def blkdrv_splitL1B (cuts : List Int) (total1 : (UInt64 × UInt64)) (L1 : (List Seg) → Int → UInt64 → Int → Option (List Seg)) (l1 : List Seg) (more1 : Int) (at1 : UInt64) (i1 : Int) : Option (List Seg) :=
  br (decide (i1 < (len cuts)))
  (ob (ix cuts i1) fun y1 =>
  br (decide (y1 ≤ (0 : Int)))
  (L1 l1 more1 at1 (wi (i1 + (1 : Int))))
  (ob (ix cuts i1) fun y2 =>
  br (decide ((u64 y2) ≥ ((total1.1 + total1.2) - at1)))
  (L1 l1 more1 at1 (wi (i1 + (1 : Int))))
  (ob (ix cuts i1) fun y3 =>
  ob (seg_Cut l1 (0 : UInt64) (at1 + (u64 y3))) fun cut1 =>
  ob (seg_Cut l1 (at1 + (u64 y3)) (total1.1 + total1.2)) fun cut2 =>
  chk (fits cut1.length cut2.length 16) <|
  br (decide ((len (cut1 ++ cut2)) > (len l1)))
  (br (more1 == (0 : Int))
  (some l1)
  (blkdrv_splitJ2 at1 i1 L1 y3 cut1 cut2 (wi (more1 - (1 : Int)))))
  (blkdrv_splitJ2 at1 i1 L1 y3 cut1 cut2 more1))))
  (some l1)

def blkdrv_splitL1 (cuts : List Int) (total1 : (UInt64 × UInt64)) : Nat → (List Seg) → Int → UInt64 → Int → Option (List Seg)
  | 0, _, _, _, _ => none
  | nf + 1, l1, more1, at1, i1 => blkdrv_splitL1B cuts total1 (blkdrv_splitL1 cuts total1 nf) l1 more1 at1 i1

/-- blkdrv.split -/
def blkdrv_split (l : List Seg) (cuts : List Int) (more : Int) : Option (List Seg) :=
  ob (seg_Total l) fun total1 =>
  blkdrv_splitL1 cuts total1 fuel l more (0 : UInt64) (0 : Int)

/-- blkdrv.Cut -/
def blkdrv_Cut (l : List Seg) (cuts : List Int) : Option (List Seg) :=
  ob (seg_Check l) fun check1 =>
  br (check1 != (0 : Int))
  (some ([] : List Seg))
  (ob (seg_Part l false) fun part1 =>
  ob (seg_Part l true) fun part2 =>
  ob (blkdrv_split part1 cuts (wi ((64 : Int) - (len l)))) fun split1 =>
  ob (blkdrv_split part2 cuts (wi ((wi ((64 : Int) - (len split1))) - (len part2)))) fun split2 =>
  chk (fits split1.length split2.length 16) <|
  some (split1 ++ split2))

/-- blk.ranged -/
def blk_ranged (tp0 : UInt32) : Option Bool :=
  br (tp0 == (11 : UInt32))
  (some true)
  (some (tp0 == (13 : UInt32)))

/-- blk.Check -/
def blk_Check (rp0 : Req) : Option Int :=
  br (decide ((len rp0.Ranges) > (16 : Int)))
  (some (2 : Int))
  (br (decide ((len rp0.Ranges) > (0 : Int)))
  (ob (blk_ranged rp0.Type_) fun ranged1 =>
  br ((!ranged1))
  (some (2 : Int))
  (br (decide ((len rp0.Data) > (0 : Int)))
  (some (2 : Int))
  (br (decide (rp0.Room < (0 : Int)))
  (some (2 : Int))
  (some (0 : Int)))))
  (br (decide (rp0.Room < (0 : Int)))
  (some (2 : Int))
  (some (0 : Int))))

def blk_wordL1B (np2 : Int) (L1 : (List UInt8) → UInt64 → Int → Option (List UInt8)) (b1 : List UInt8) (v2 : UInt64) (x1 : Int) : Option (List UInt8) :=
  br (decide (x1 < np2))
  (chk (fits b1.length [v2.toUInt8].length 1) <|
  L1 (b1 ++ [v2.toUInt8]) (shr64 v2 ((8 : UInt64).toNat)) (wi (x1 + (1 : Int))))
  (some b1)

def blk_wordL1 (np2 : Int) : Nat → (List UInt8) → UInt64 → Int → Option (List UInt8)
  | 0, _, _, _ => none
  | nf + 1, b1, v2, x1 => blk_wordL1B np2 (blk_wordL1 np2 nf) b1 v2 x1

/-- blk.word -/
def blk_word (b : List UInt8) (vp1 : UInt64) (np2 : Int) : Option (List UInt8) :=
  blk_wordL1 np2 fuel b vp1 (0 : Int)

def blk_BytesL1B (rp0 : Req) (L1 : (List UInt8) → Int → Option ((List UInt8) × Int)) (b2 : List UInt8) (x1 : Int) : Option ((List UInt8) × Int) :=
  br (decide (x1 < (len rp0.Ranges)))
  (ob (ix rp0.Ranges x1) fun r1 =>
  ob (blk_word b2 r1.Sector (8 : Int)) fun word4 =>
  ob (blk_word word4 r1.Count.toUInt64 (4 : Int)) fun word5 =>
  ob (blk_word word5 r1.Flags.toUInt64 (4 : Int)) fun word6 =>
  L1 word6 (wi (x1 + (1 : Int))))
  (some (b2, (0 : Int)))

def blk_BytesL1 (rp0 : Req) : Nat → (List UInt8) → Int → Option ((List UInt8) × Int)
  | 0, _, _ => none
  | nf + 1, b2, x1 => blk_BytesL1B rp0 (blk_BytesL1 rp0 nf) b2 x1

/-- blk.Bytes -/
def blk_Bytes (rp0 : Req) : Option ((List UInt8) × Int) :=
  ob (blk_Check rp0) fun check1 =>
  br (check1 != (0 : Int))
  (some (([] : List UInt8), check1))
  (ob (blk_word ([] : List UInt8) rp0.Type_.toUInt64 (4 : Int)) fun word1 =>
  ob (blk_word word1 (0 : UInt64) (4 : Int)) fun word2 =>
  ob (blk_word word2 rp0.Sector (8 : Int)) fun word3 =>
  chk (fits word3.length rp0.Data.length 1) <|
  blk_BytesL1 rp0 fuel (word3 ++ rp0.Data) (0 : Int))

/-- (*gmem.Mem).made -/
def gmem_Mem_made (m : gmem_Mem) : Option Bool :=
  some true

/-- (*gmem.Mem).bytes$1 -/
def gmem_Mem_bytes_1 (ip0 : Int) (arg1 : gmem_Mem) (arg2 : UInt64) : Option Bool :=
  ob (ix arg1.l ip0) fun r1 =>
  ob (ix arg1.l ip0) fun r2 =>
  some (decide (((r1.Len - (1 : UInt64)) + r2.At) ≥ arg2))

def sort_SearchFgmem_Mem_bytes_1L1B (fc0 : gmem_Mem) (fc1 : UInt64) (L1 : Int → Int → Option Int) (i1 : Int) (j1 : Int) : Option Int :=
  br (decide (i1 < j1))
  (ob (gmem_Mem_bytes_1 (i64 (shr64 (u64 (wi (i1 + j1))) ((1 : UInt64).toNat))) fc0 fc1) fun bytes1 =>
  br ((!bytes1))
  (L1 (wi ((i64 (shr64 (u64 (wi (i1 + j1))) ((1 : UInt64).toNat))) + (1 : Int))) j1)
  (L1 i1 (i64 (shr64 (u64 (wi (i1 + j1))) ((1 : UInt64).toNat)))))
  (some i1)

def sort_SearchFgmem_Mem_bytes_1L1 (fc0 : gmem_Mem) (fc1 : UInt64) : Nat → Int → Int → Option Int
  | 0, _, _ => none
  | nf + 1, i1, j1 => sort_SearchFgmem_Mem_bytes_1L1B fc0 fc1 (sort_SearchFgmem_Mem_bytes_1L1 fc0 fc1 nf) i1 j1

/-- sort.Search -/
def sort_SearchFgmem_Mem_bytes_1 (np0 : Int) (fc0 : gmem_Mem) (fc1 : UInt64) : Option Int :=
  sort_SearchFgmem_Mem_bytes_1L1 fc0 fc1 fuel (0 : Int) np0

/-- (*gmem.Mem).bytes -/
def gmem_Mem_bytes (m : gmem_Mem) (atp1 : UInt64) (np2 : UInt64) : Option (Option (Int × Int × Int)) :=
  br (decide (np2 < (1 : UInt64)))
  (some (none : Option (Int × Int × Int)))
  (ob (sort_SearchFgmem_Mem_bytes_1 (len m.l) m atp1) fun search1 =>
  br (search1 == (len m.l))
  (some (none : Option (Int × Int × Int)))
  (ob (ix m.l search1) fun r1 =>
  br (decide (atp1 < r1.At))
  (some (none : Option (Int × Int × Int)))
  (ob (ix m.l search1) fun r2 =>
  ob (ix m.l search1) fun r3 =>
  br (decide (np2 > (r3.Len - (atp1 - r2.At))))
  (some (none : Option (Int × Int × Int)))
  (ob (ix m.b search1) fun row1 =>
  chk (decide (0 ≤ ((atp1 - r2.At).toNat : Int) ∧ ((atp1 - r2.At).toNat : Int) ≤ (((atp1 - r2.At) + np2).toNat : Int) ∧ (((atp1 - r2.At) + np2).toNat : Int) ≤ len row1)) <|
  some (some (search1, ((atp1 - r2.At).toNat : Int), (((atp1 - r2.At) + np2).toNat : Int)))))))

/-- (*gmem.Mem).Has -/
def gmem_Mem_Has (m : gmem_Mem) (atp1 : UInt64) (np2 : UInt64) : Option Bool :=
  ob (gmem_Mem_made m) fun made1 =>
  ob (gmem_Mem_bytes m atp1 np2) fun bytes1 =>
  onO bytes1
  (some false)
  (fun w1 =>
  ob (ix m.b w1.1) fun row1 =>
  chk (decide (0 ≤ w1.2.1 ∧ w1.2.1 ≤ w1.2.2 ∧ w1.2.2 ≤ len row1)) <|
  chk (decide (w1.2.1 < w1.2.2)) <|
  some true)

/-- (*gmem.Mem).Write -/
def gmem_Mem_Write (m : gmem_Mem) (atp1 : UInt64) (arg2 : List UInt8) : Option (Int × (List (List UInt8))) :=
  ob (gmem_Mem_made m) fun made1 =>
  br ((len arg2) == (0 : Int))
  (some ((0 : Int), m.b))
  (ob (gmem_Mem_bytes m atp1 (u64 (len arg2))) fun bytes1 =>
  onO bytes1
  (some ((5 : Int), m.b))
  (fun w1 =>
  ob (ix m.b w1.1) fun row1 =>
  chk (decide (0 ≤ w1.2.1 ∧ w1.2.1 ≤ w1.2.2 ∧ w1.2.2 ≤ len row1)) <|
  chk (decide (w1.2.1 < w1.2.2)) <|
  some ((0 : Int), m.b.set (Int.toNat w1.1) (copyAt row1 w1.2.1 w1.2.2 arg2))))

/-- blkdrv.Lay$1 -/
def blkdrv_Lay_1 (arg0 : Int) (arg1 : gmem_Mem) (arg2 : UInt64) (arg3 : List UInt8) (arg4 : Req) : Option (List (List UInt8)) :=
  br (arg0 == (0 : Int))
  (chk (decide (0 ≤ (wi (arg4.Room + (1 : Int))) ∧ ((arg3.length : Int) + (wi (arg4.Room + (1 : Int)))) * ((1 : Nat) : Int) ≤ 140737488355328)) <|
  ob (gmem_Mem_Write arg1 arg2 (arg3 ++ List.replicate (Int.toNat (wi (arg4.Room + (1 : Int)))) (0 : UInt8))) fun write1 =>
  some write1.2)
  (some arg1.b)

/-- blkdrv.Lay -/
def blkdrv_Lay (m : gmem_Mem) (atp1 : UInt64) (rp2 : Req) (cuts : List Int) : Option ((List Seg) × Int × (List (List UInt8))) :=
  ob (blk_Bytes rp2) fun bytes1 =>
  br (bytes1.2 != (0 : Int))
  (some (([] : List Seg), bytes1.2, m.b))
  (ob (gmem_Mem_Has m atp1 (((u64 (len bytes1.1)) + (u64 rp2.Room)) + (1 : UInt64))) fun has1 =>
  br ((!has1))
  (ob (blkdrv_Lay_1 (5 : Int) m atp1 bytes1.1 rp2) fun lay1 =>
  some (([] : List Seg), (5 : Int), lay1))
  (ob (blkdrv_Cut [(Seg.mk atp1 ((u64 (len bytes1.1)).toUInt32) false), (Seg.mk (atp1 + (u64 (len bytes1.1))) (u32 (wi (rp2.Room + (1 : Int)))) true)] cuts) fun cut1 =>
  ob (blkdrv_Lay_1 (0 : Int) m atp1 bytes1.1 rp2) fun lay2 =>
  some (cut1, (0 : Int), lay2)))

/-- dumbwaiterref20.Of -/
def ref_Of20 (b : List UInt8) : Option ((Option dumbwaiterref20_Store) × Int) :=
  br (decide ((quoi (len b) (512 : Int)) < (1 : Int)))
  (some ((none : Option dumbwaiterref20_Store), (2 : Int)))
  (br (decide ((quoi (len b) (512 : Int)) > (4096 : Int)))
  (some ((none : Option dumbwaiterref20_Store), (2 : Int)))
  (br ((remi (len b) (512 : Int)) != (0 : Int))
  (some ((none : Option dumbwaiterref20_Store), (2 : Int)))
  (chk (fits ([] : List UInt8).length b.length 1) <|
  chk (fits ([] : List UInt8).length b.length 1) <|
  chk (decide (0 ≤ (quoi (len b) (512 : Int)) ∧ (quoi (len b) (512 : Int)) ≤ (quoi (len b) (512 : Int)) ∧ (1 : Int) * (quoi (len b) (512 : Int)) ≤ 140737488355328)) <|
  some ((some (dumbwaiterref20_Store.mk b b (List.replicate (quoi (len b) (512 : Int)).toNat false))), (0 : Int)))))

def ref_Check05L1B (l : List Seg) (L1 : UInt64 → Int → Option Int) (sum1 : UInt64) (i1 : Int) : Option Int :=
  br (decide (i1 < (len l)))
  (ob (ix l i1) fun s1 =>
  br (s1.Len == (0 : UInt32))
  (some (2 : Int))
  (ob (ix l i1) fun s2 =>
  ob (ix l i1) fun s3 =>
  ob (ix l i1) fun s4 =>
  br (decide ((s2.At + (s3.Len.toUInt64 - (1 : UInt64))) < s4.At))
  (some (2 : Int))
  (br (decide (i1 > (0 : Int)))
  (ob (ix l (wi (i1 - (1 : Int)))) fun s5 =>
  br (s5.Write)
  (ob (ix l i1) fun s6 =>
  br ((!s6.Write))
  (some (2 : Int))
  (ob (ix l i1) fun s7 =>
  L1 (sum1 + s7.Len.toUInt64) (wi (i1 + (1 : Int)))))
  (ob (ix l i1) fun s8 =>
  L1 (sum1 + s8.Len.toUInt64) (wi (i1 + (1 : Int)))))
  (ob (ix l i1) fun s9 =>
  L1 (sum1 + s9.Len.toUInt64) (wi (i1 + (1 : Int)))))))
  (br (decide (sum1 ≥ (4294967296 : UInt64)))
  (some (2 : Int))
  (some (0 : Int)))

def ref_Check05L1 (l : List Seg) : Nat → UInt64 → Int → Option Int
  | 0, _, _ => none
  | nf + 1, sum1, i1 => ref_Check05L1B l (ref_Check05L1 l nf) sum1 i1

/-- dumbwaiterref05.Check -/
def ref_Check05 (l : List Seg) : Option Int :=
  br (decide ((len l) > (64 : Int)))
  (some (3 : Int))
  (ref_Check05L1 l fuel (0 : UInt64) (0 : Int))

def ref_Mem_find02L1B (m : dumbwaiterref02_Mem) (atp1 : UInt64) (np2 : UInt64) (L1 : Int → Option (Int × Int)) (i1 : Int) : Option (Int × Int) :=
  br (decide (i1 < (len m.L)))
  (ob (ix m.L i1) fun r1 =>
  br (decide (np2 ≥ (1 : UInt64)))
  (br (decide (atp1 ≥ r1.At))
  (br (decide (np2 ≤ r1.Len))
  (br (decide ((atp1 - r1.At) ≤ (r1.Len - np2)))
  (some (i1, i64 (atp1 - r1.At)))
  (L1 (wi (i1 + (1 : Int)))))
  (L1 (wi (i1 + (1 : Int)))))
  (L1 (wi (i1 + (1 : Int)))))
  (L1 (wi (i1 + (1 : Int)))))
  (some (((-1) : Int), (0 : Int)))

def ref_Mem_find02L1 (m : dumbwaiterref02_Mem) (atp1 : UInt64) (np2 : UInt64) : Nat → Int → Option (Int × Int)
  | 0, _ => none
  | nf + 1, i1 => ref_Mem_find02L1B m atp1 np2 (ref_Mem_find02L1 m atp1 np2 nf) i1

/-- (*dumbwaiterref02.Mem).find -/
def ref_Mem_find02 (m : dumbwaiterref02_Mem) (atp1 : UInt64) (np2 : UInt64) : Option (Int × Int) :=
  ref_Mem_find02L1 m atp1 np2 fuel (0 : Int)

/-- (*dumbwaiterref02.Mem).Write -/
def ref_Mem_Write02 (m : dumbwaiterref02_Mem) (atp1 : UInt64) (b : List UInt8) : Option (Int × (List (List UInt8))) :=
  br ((len b) == (0 : Int))
  (some ((0 : Int), m.B))
  (ob (ref_Mem_find02 m atp1 (u64 (len b))) fun find1 =>
  br (decide (find1.1 < (0 : Int)))
  (some ((5 : Int), m.B))
  (ob (ix m.B find1.1) fun row1 =>
  chk (decide (0 ≤ find1.2 ∧ find1.2 ≤ (len row1) ∧ (len row1) ≤ len row1)) <|
  some ((0 : Int), m.B.set (Int.toNat find1.1) (copyAt row1 find1.2 (len row1) b))))

/-- (*dumbwaiterref02.Mem).Has -/
def ref_Mem_Has02 (m : dumbwaiterref02_Mem) (atp1 : UInt64) (np2 : UInt64) : Option Bool :=
  ob (ref_Mem_find02 m atp1 np2) fun find1 =>
  some (decide (find1.1 ≥ (0 : Int)))

def ref_In05L1B (m : dumbwaiterref02_Mem) (l : List Seg) (L1 : Int → Int → Option Int) (e1 : Int) (i1 : Int) : Option Int :=
  br (decide (i1 < (len l)))
  (br (e1 == (0 : Int))
  (ob (ix l i1) fun s1 =>
  ob (ix l i1) fun s2 =>
  ob (ref_Mem_Has02 m s1.At s2.Len.toUInt64) fun has1 =>
  br ((!has1))
  (L1 (5 : Int) (wi (i1 + (1 : Int))))
  (L1 e1 (wi (i1 + (1 : Int)))))
  (some e1))
  (some e1)

def ref_In05L1 (m : dumbwaiterref02_Mem) (l : List Seg) : Nat → Int → Int → Option Int
  | 0, _, _ => none
  | nf + 1, e1, i1 => ref_In05L1B m l (ref_In05L1 m l nf) e1 i1

/-- dumbwaiterref05.In -/
def ref_In05 (m : dumbwaiterref02_Mem) (l : List Seg) : Option Int :=
  ob (ref_Check05 l) fun check1 =>
  ref_In05L1 m l fuel check1 (0 : Int)

def ref_Total05J2 (i1 : Int) (L1 : UInt64 → UInt64 → Int → Option (UInt64 × UInt64)) (read2 : UInt64) (write2 : UInt64) : Option (UInt64 × UInt64) :=
  L1 read2 write2 (wi (i1 + (1 : Int)))

def ref_Total05J3 (i1 : Int) (L1 : UInt64 → UInt64 → Int → Option (UInt64 × UInt64)) (read3 : UInt64) (write3 : UInt64) : Option (UInt64 × UInt64) :=
  ref_Total05J2 i1 L1 read3 write3

def ref_Total05L1B (l : List Seg) (L1 : UInt64 → UInt64 → Int → Option (UInt64 × UInt64)) (read1 : UInt64) (write1 : UInt64) (i1 : Int) : Option (UInt64 × UInt64) :=
  br (decide (i1 < (len l)))
  (ob (ref_Check05 l) fun check1 =>
  br (check1 == (0 : Int))
  (ob (ix l i1) fun s1 =>
  br (s1.Write)
  (ob (ix l i1) fun s2 =>
  ref_Total05J3 i1 L1 read1 (write1 + s2.Len.toUInt64))
  (ob (ix l i1) fun s3 =>
  ref_Total05J3 i1 L1 (read1 + s3.Len.toUInt64) write1))
  (some (read1, write1)))
  (some (read1, write1))

def ref_Total05L1 (l : List Seg) : Nat → UInt64 → UInt64 → Int → Option (UInt64 × UInt64)
  | 0, _, _, _ => none
  | nf + 1, read1, write1, i1 => ref_Total05L1B l (ref_Total05L1 l nf) read1 write1 i1

/-- dumbwaiterref05.Total -/
def ref_Total05 (l : List Seg) : Option (UInt64 × UInt64) :=
  ref_Total05L1 l fuel (0 : UInt64) (0 : UInt64) (0 : Int)

/-- (*dumbwaiterref02.Mem).Read -/
def ref_Mem_Read02 (m : dumbwaiterref02_Mem) (atp1 : UInt64) (np2 : Int) : Option ((List UInt8) × Int) :=
  br (decide (np2 < (0 : Int)))
  (some (([] : List UInt8), (2 : Int)))
  (br (np2 == (0 : Int))
  (some (([] : List UInt8), (0 : Int)))
  (ob (ref_Mem_find02 m atp1 (u64 np2)) fun find1 =>
  br (decide (find1.1 < (0 : Int)))
  (some (([] : List UInt8), (5 : Int)))
  (ob (ix m.B find1.1) fun row1 =>
  chk (decide (0 ≤ find1.2 ∧ find1.2 ≤ (wi (find1.2 + np2)) ∧ (wi (find1.2 + np2)) ≤ len row1)) <|
  chk (fits ([] : List UInt8).length (sub row1 find1.2 (wi (find1.2 + np2))).length 1) <|
  some (sub row1 find1.2 (wi (find1.2 + np2)), (0 : Int)))))

def ref_Gather05J2 (i1 : Int) (L1 : (List UInt8) → Int → Option ((List UInt8) × Int)) (out2 : List UInt8) : Option ((List UInt8) × Int) :=
  L1 out2 (wi (i1 + (1 : Int)))

def ref_Gather05J3 (i1 : Int) (L1 : (List UInt8) → Int → Option ((List UInt8) × Int)) (out3 : List UInt8) : Option ((List UInt8) × Int) :=
  ref_Gather05J2 i1 L1 out3

def ref_Gather05L1B (m : dumbwaiterref02_Mem) (l : List Seg) (L1 : (List UInt8) → Int → Option ((List UInt8) × Int)) (out1 : List UInt8) (i1 : Int) : Option ((List UInt8) × Int) :=
  br (decide (i1 < (len l)))
  (ob (ix l i1) fun s1 =>
  br ((!s1.Write))
  (ob (ix l i1) fun s2 =>
  ob (ix l i1) fun s3 =>
  ob (ref_Mem_Read02 m s2.At (i32 s3.Len)) fun read1 =>
  chk (fits out1.length read1.1.length 1) <|
  ref_Gather05J3 i1 L1 (out1 ++ read1.1))
  (ref_Gather05J3 i1 L1 out1))
  (some (out1, (0 : Int)))

def ref_Gather05L1 (m : dumbwaiterref02_Mem) (l : List Seg) : Nat → (List UInt8) → Int → Option ((List UInt8) × Int)
  | 0, _, _ => none
  | nf + 1, out1, i1 => ref_Gather05L1B m l (ref_Gather05L1 m l nf) out1 i1

/-- dumbwaiterref05.Gather -/
def ref_Gather05 (m : dumbwaiterref02_Mem) (l : List Seg) : Option ((List UInt8) × Int) :=
  ob (ref_In05 m l) fun in1 =>
  br (in1 != (0 : Int))
  (some (([] : List UInt8), in1))
  (ref_Gather05L1 m l fuel [] (0 : Int))

def ref_number21L1B (b : List UInt8) (L1 : UInt64 → Int → Option UInt64) (x1 : UInt64) (i1 : Int) : Option UInt64 :=
  br (decide (i1 ≥ (0 : Int)))
  (ob (ix b i1) fun y1 =>
  L1 ((shl64 x1 ((8 : UInt64).toNat)) ||| y1.toUInt64) (wi (i1 - (1 : Int))))
  (some x1)

def ref_number21L1 (b : List UInt8) : Nat → UInt64 → Int → Option UInt64
  | 0, _, _ => none
  | nf + 1, x1, i1 => ref_number21L1B b (ref_number21L1 b nf) x1 i1

/-- dumbwaiterref21.number -/
def ref_number21 (b : List UInt8) : Option UInt64 :=
  ref_number21L1 b fuel (0 : UInt64) (wi ((len b) - (1 : Int)))

/-- dumbwaiterref21.Read -/
def ref_Read21 (b : List UInt8) : Option (Req × Int) :=
  br (decide ((len b) < (16 : Int)))
  (some ((Req.mk (0 : UInt32) (0 : UInt64) ([] : List UInt8) (0 : Int) ([] : List Range)), (2 : Int)))
  (chk (decide (0 ≤ (0 : Int) ∧ (0 : Int) ≤ (4 : Int) ∧ (4 : Int) ≤ len b)) <|
  ob (ref_number21 (sub b (0 : Int) (4 : Int))) fun number1 =>
  chk (decide (0 ≤ (8 : Int) ∧ (8 : Int) ≤ (16 : Int) ∧ (16 : Int) ≤ len b)) <|
  ob (ref_number21 (sub b (8 : Int) (16 : Int))) fun number2 =>
  chk (decide (0 ≤ (16 : Int) ∧ (16 : Int) ≤ (len b) ∧ (len b) ≤ len b)) <|
  chk (fits ([] : List UInt8).length (sub b (16 : Int) (len b)).length 1) <|
  some ((Req.mk number1.toUInt32 number2 (sub b (16 : Int) (len b)) (0 : Int) ([] : List Range)), (0 : Int)))

/-- (*dumbwaiterref20.Store).Has -/
def ref_Store_Has20 (sp0 : dumbwaiterref20_Store) (atp1 : UInt64) (np2 : UInt64) : Option Bool :=
  br (decide (atp1 ≤ (u64 (len sp0.fresh))))
  (some (decide (np2 ≤ ((u64 (len sp0.fresh)) - atp1))))
  (some false)

def ref_Store_Write20L1B (atp1 : UInt64) (b : List UInt8) (L1 : (List UInt8) → (List UInt8) → (List Bool) → Int → Option (Int × dumbwaiterref20_Store)) (l1 : List UInt8) (l2 : List UInt8) (l3 : List Bool) (i1 : Int) : Option (Int × dumbwaiterref20_Store) :=
  br (decide (i1 < (quoi (len b) (512 : Int))))
  (ob (ix l3 (wi ((i64 atp1) + i1))) fun y1 =>
  L1 l1 l2 (l3.set (wi ((i64 atp1) + i1)).toNat true) (wi (i1 + (1 : Int))))
  (some ((0 : Int), (dumbwaiterref20_Store.mk l1 l2 l3)))

def ref_Store_Write20L1 (atp1 : UInt64) (b : List UInt8) : Nat → (List UInt8) → (List UInt8) → (List Bool) → Int → Option (Int × dumbwaiterref20_Store)
  | 0, _, _, _, _ => none
  | nf + 1, l1, l2, l3, i1 => ref_Store_Write20L1B atp1 b (ref_Store_Write20L1 atp1 b nf) l1 l2 l3 i1

/-- (*dumbwaiterref20.Store).Write -/
def ref_Store_Write20 (sp0 : dumbwaiterref20_Store) (atp1 : UInt64) (b : List UInt8) : Option (Int × dumbwaiterref20_Store) :=
  br ((remi (len b) (512 : Int)) != (0 : Int))
  (some ((2 : Int), sp0))
  (ob (ref_Store_Has20 sp0 atp1 (u64 (quoi (len b) (512 : Int)))) fun has1 =>
  br ((!has1))
  (some ((5 : Int), sp0))
  (chk (decide (0 ≤ (wi ((i64 atp1) * (512 : Int))) ∧ (wi ((i64 atp1) * (512 : Int))) ≤ (len sp0.now) ∧ (len sp0.now) ≤ len sp0.now)) <|
  ref_Store_Write20L1 atp1 b fuel sp0.old (copyAt sp0.now (wi ((i64 atp1) * (512 : Int))) (len sp0.now) b) sp0.fresh (0 : Int)))

/-- dumbwaiterref06.Has -/
def ref_Has06 (set : UInt64) (bit : Int) : Option Bool :=
  br (decide (bit ≥ (0 : Int)))
  (br (decide (bit < (64 : Int)))
  (some (((shr64 set ((u64 bit).toNat)) % (2 : UInt64)) == (1 : UInt64)))
  (some false))
  (some false)

/-- (*dumbwaiterref20.Store).Zero -/
def ref_Store_Zero20 (sp0 : dumbwaiterref20_Store) (atp1 : UInt64) (np2 : UInt64) : Option (Int × dumbwaiterref20_Store) :=
  ob (ref_Store_Has20 sp0 atp1 np2) fun has1 =>
  br ((!has1))
  (some ((5 : Int), sp0))
  (chk (decide (0 ≤ (wi ((i64 np2) * (512 : Int))) ∧ (wi ((i64 np2) * (512 : Int))) ≤ (wi ((i64 np2) * (512 : Int))) ∧ (1 : Int) * (wi ((i64 np2) * (512 : Int))) ≤ 140737488355328)) <|
  ob (ref_Store_Write20 sp0 atp1 (List.replicate (wi ((i64 np2) * (512 : Int))).toNat (0 : UInt8))) fun write1 =>
  some (write1.1, write1.2))

def ref_ranges21L4B (b : List UInt8) (L4 : (List UInt8) → (List UInt8) → (List Bool) → Int → Option (UInt8 × dumbwaiterref20_Store)) (l1 : List UInt8) (l2 : List UInt8) (l3 : List Bool) (i3 : Int) : Option (UInt8 × dumbwaiterref20_Store) :=
  br (decide (i3 < (quoi (len b) (16 : Int))))
  (chk (decide (0 ≤ (wi ((16 : Int) * i3)) ∧ (wi ((16 : Int) * i3)) ≤ (wi ((wi ((16 : Int) * i3)) + (8 : Int))) ∧ (wi ((wi ((16 : Int) * i3)) + (8 : Int))) ≤ len b)) <|
  ob (ref_number21 (sub b (wi ((16 : Int) * i3)) (wi ((wi ((16 : Int) * i3)) + (8 : Int))))) fun number4 =>
  chk (decide (0 ≤ (wi ((wi ((16 : Int) * i3)) + (8 : Int))) ∧ (wi ((wi ((16 : Int) * i3)) + (8 : Int))) ≤ (wi ((wi ((16 : Int) * i3)) + (12 : Int))) ∧ (wi ((wi ((16 : Int) * i3)) + (12 : Int))) ≤ len b)) <|
  ob (ref_number21 (sub b (wi ((wi ((16 : Int) * i3)) + (8 : Int))) (wi ((wi ((16 : Int) * i3)) + (12 : Int))))) fun number5 =>
  ob (ref_Store_Zero20 (dumbwaiterref20_Store.mk l1 l2 l3) number4 number5) fun zero1 =>
  L4 zero1.2.old zero1.2.now zero1.2.fresh (wi (i3 + (1 : Int))))
  (some ((0 : UInt8), (dumbwaiterref20_Store.mk l1 l2 l3)))

def ref_ranges21L4 (b : List UInt8) : Nat → (List UInt8) → (List UInt8) → (List Bool) → Int → Option (UInt8 × dumbwaiterref20_Store)
  | 0, _, _, _, _ => none
  | nf + 1, l1, l2, l3, i3 => ref_ranges21L4B b (ref_ranges21L4 b nf) l1 l2 l3 i3

def ref_ranges21L3B (sp0 : dumbwaiterref20_Store) (tp2 : UInt32) (b : List UInt8) (L3 : Int → Option (UInt8 × dumbwaiterref20_Store)) (i2 : Int) : Option (UInt8 × dumbwaiterref20_Store) :=
  br (decide (i2 < (quoi (len b) (16 : Int))))
  (chk (decide (0 ≤ (wi ((wi ((16 : Int) * i2)) + (12 : Int))) ∧ (wi ((wi ((16 : Int) * i2)) + (12 : Int))) ≤ (wi ((wi ((16 : Int) * i2)) + (16 : Int))) ∧ (wi ((wi ((16 : Int) * i2)) + (16 : Int))) ≤ len b)) <|
  ob (ref_number21 (sub b (wi ((wi ((16 : Int) * i2)) + (12 : Int))) (wi ((wi ((16 : Int) * i2)) + (16 : Int))))) fun number3 =>
  br (decide (number3 > (1 : UInt64)))
  (some ((2 : UInt8), sp0))
  (br (number3 == (1 : UInt64))
  (br (tp2 != (13 : UInt32))
  (some ((2 : UInt8), sp0))
  (L3 (wi (i2 + (1 : Int)))))
  (L3 (wi (i2 + (1 : Int))))))
  (ref_ranges21L4 b fuel sp0.old sp0.now sp0.fresh (0 : Int))

def ref_ranges21L3 (sp0 : dumbwaiterref20_Store) (tp2 : UInt32) (b : List UInt8) : Nat → Int → Option (UInt8 × dumbwaiterref20_Store)
  | 0, _ => none
  | nf + 1, i2 => ref_ranges21L3B sp0 tp2 b (ref_ranges21L3 sp0 tp2 b nf) i2

def ref_ranges21L2B (sp0 : dumbwaiterref20_Store) (tp2 : UInt32) (b : List UInt8) (L2 : Int → Option (UInt8 × dumbwaiterref20_Store)) (i1 : Int) : Option (UInt8 × dumbwaiterref20_Store) :=
  br (decide (i1 < (quoi (len b) (16 : Int))))
  (chk (decide (0 ≤ (wi ((16 : Int) * i1)) ∧ (wi ((16 : Int) * i1)) ≤ (wi ((wi ((16 : Int) * i1)) + (8 : Int))) ∧ (wi ((wi ((16 : Int) * i1)) + (8 : Int))) ≤ len b)) <|
  ob (ref_number21 (sub b (wi ((16 : Int) * i1)) (wi ((wi ((16 : Int) * i1)) + (8 : Int))))) fun number1 =>
  chk (decide (0 ≤ (wi ((wi ((16 : Int) * i1)) + (8 : Int))) ∧ (wi ((wi ((16 : Int) * i1)) + (8 : Int))) ≤ (wi ((wi ((16 : Int) * i1)) + (12 : Int))) ∧ (wi ((wi ((16 : Int) * i1)) + (12 : Int))) ≤ len b)) <|
  ob (ref_number21 (sub b (wi ((wi ((16 : Int) * i1)) + (8 : Int))) (wi ((wi ((16 : Int) * i1)) + (12 : Int))))) fun number2 =>
  ob (ref_Store_Has20 sp0 number1 number2) fun has2 =>
  br ((!has2))
  (some ((1 : UInt8), sp0))
  (L2 (wi (i1 + (1 : Int)))))
  (ref_ranges21L3 sp0 tp2 b fuel (0 : Int))

def ref_ranges21L2 (sp0 : dumbwaiterref20_Store) (tp2 : UInt32) (b : List UInt8) : Nat → Int → Option (UInt8 × dumbwaiterref20_Store)
  | 0, _ => none
  | nf + 1, i1 => ref_ranges21L2B sp0 tp2 b (ref_ranges21L2 sp0 tp2 b nf) i1

def ref_ranges21J1 (sp0 : dumbwaiterref20_Store) (feats : UInt64) (tp2 : UInt32) (ro : Bool) (b : List UInt8) (bit1 : Int) : Option (UInt8 × dumbwaiterref20_Store) :=
  ob (ref_Has06 feats bit1) fun has1 =>
  br ((!has1))
  (some ((2 : UInt8), sp0))
  (br (ro)
  (some ((1 : UInt8), sp0))
  (br ((remi (len b) (16 : Int)) != (0 : Int))
  (some ((1 : UInt8), sp0))
  (br (decide ((quoi (len b) (16 : Int)) < (1 : Int)))
  (some ((1 : UInt8), sp0))
  (br (decide ((quoi (len b) (16 : Int)) > (16 : Int)))
  (some ((1 : UInt8), sp0))
  (ref_ranges21L2 sp0 tp2 b fuel (0 : Int))))))

/-- dumbwaiterref21.ranges -/
def ref_ranges21 (sp0 : dumbwaiterref20_Store) (feats : UInt64) (tp2 : UInt32) (ro : Bool) (b : List UInt8) : Option (UInt8 × dumbwaiterref20_Store) :=
  br (tp2 == (13 : UInt32))
  (ref_ranges21J1 sp0 feats tp2 ro b (14 : Int))
  (ref_ranges21J1 sp0 feats tp2 ro b (13 : Int))

/-- (*dumbwaiterref20.Store).Read -/
def ref_Store_Read20 (sp0 : dumbwaiterref20_Store) (atp1 : UInt64) (np2 : Int) : Option ((List UInt8) × Int) :=
  br (decide (np2 < (0 : Int)))
  (some (([] : List UInt8), (2 : Int)))
  (ob (ref_Store_Has20 sp0 atp1 (u64 np2)) fun has1 =>
  br ((!has1))
  (some (([] : List UInt8), (5 : Int)))
  (chk (decide (0 ≤ (wi ((i64 atp1) * (512 : Int))) ∧ (wi ((i64 atp1) * (512 : Int))) ≤ (wi ((wi ((i64 atp1) * (512 : Int))) + (wi (np2 * (512 : Int))))) ∧ (wi ((wi ((i64 atp1) * (512 : Int))) + (wi (np2 * (512 : Int))))) ≤ len sp0.now)) <|
  chk (fits ([] : List UInt8).length (sub sp0.now (wi ((i64 atp1) * (512 : Int))) (wi ((wi ((i64 atp1) * (512 : Int))) + (wi (np2 * (512 : Int)))))).length 1) <|
  some (sub sp0.now (wi ((i64 atp1) * (512 : Int))) (wi ((wi ((i64 atp1) * (512 : Int))) + (wi (np2 * (512 : Int))))), (0 : Int))))

/-- (*dumbwaiterref20.Store).Flush -/
def ref_Store_Flush20 (sp0 : dumbwaiterref20_Store) : Option (Int × dumbwaiterref20_Store) :=
  chk (fits ([] : List UInt8).length sp0.now.length 1) <|
  chk (decide (0 ≤ (len sp0.fresh) ∧ (len sp0.fresh) ≤ (len sp0.fresh) ∧ (1 : Int) * (len sp0.fresh) ≤ 140737488355328)) <|
  some ((0 : Int), (dumbwaiterref20_Store.mk sp0.now sp0.now (List.replicate (len sp0.fresh).toNat false)))

def ref_apply21J1 (sp0 : dumbwaiterref20_Store) (feats : UInt64) (rp3 : Req) (b : List UInt8) (has1 : Bool) (x1 : Bool) : Option ((List UInt8) × UInt8 × dumbwaiterref20_Store) :=
  br (x1)
  (ob (ref_ranges21 sp0 feats rp3.Type_ has1 b) fun ranges1 =>
  some (([] : List UInt8), ranges1.1, ranges1.2))
  (some (([] : List UInt8), (2 : UInt8), sp0))

/-- dumbwaiterref21.apply -/
def ref_apply21 (sp0 : dumbwaiterref20_Store) (feats : UInt64) (name : List UInt8) (rp3 : Req) (b : List UInt8) : Option ((List UInt8) × UInt8 × dumbwaiterref20_Store) :=
  ob (ref_Has06 feats (5 : Int)) fun has1 =>
  br (rp3.Type_ == (0 : UInt32))
  (br ((remi rp3.Room (512 : Int)) != (0 : Int))
  (some (([] : List UInt8), (1 : UInt8), sp0))
  (ob (ref_Store_Read20 sp0 rp3.Sector (quoi rp3.Room (512 : Int))) fun read1 =>
  br (read1.2 != (0 : Int))
  (some (([] : List UInt8), (1 : UInt8), sp0))
  (some (read1.1, (0 : UInt8), sp0))))
  (br (rp3.Type_ == (1 : UInt32))
  (br (has1)
  (some (([] : List UInt8), (1 : UInt8), sp0))
  (ob (ref_Store_Write20 sp0 rp3.Sector b) fun write1 =>
  br (write1.1 != (0 : Int))
  (some (([] : List UInt8), (1 : UInt8), write1.2))
  (some (([] : List UInt8), (0 : UInt8), write1.2))))
  (br (rp3.Type_ == (4 : UInt32))
  (ob (ref_Has06 feats (9 : Int)) fun has2 =>
  br ((!has2))
  (some (([] : List UInt8), (2 : UInt8), sp0))
  (ob (ref_Store_Flush20 sp0) fun flush1 =>
  some (([] : List UInt8), (0 : UInt8), flush1.2)))
  (br (rp3.Type_ == (8 : UInt32))
  (br (decide (rp3.Room < (20 : Int)))
  (some (([] : List UInt8), (1 : UInt8), sp0))
  (chk (decide (0 ≤ (20 : Int) ∧ (20 : Int) ≤ (20 : Int) ∧ (1 : Int) * (20 : Int) ≤ 140737488355328)) <|
  some (copyStr (List.replicate (20 : Int).toNat (0 : UInt8)) name, (0 : UInt8), sp0)))
  (br (rp3.Type_ == (11 : UInt32))
  (ref_apply21J1 sp0 feats rp3 b has1 (rp3.Type_ == (11 : UInt32)))
  (ref_apply21J1 sp0 feats rp3 b has1 (rp3.Type_ == (13 : UInt32)))))))

def ref_Part05L1B (l : List Seg) (write : Bool) (L1 : (List Seg) → Int → Option (List Seg)) (out1 : List Seg) (i1 : Int) : Option (List Seg) :=
  br (decide (i1 < (len l)))
  (ob (ref_Check05 l) fun check1 =>
  br (check1 == (0 : Int))
  (ob (ix l i1) fun s1 =>
  br (s1.Write == write)
  (ob (ix l i1) fun s2 =>
  chk (fits out1.length [s2].length 16) <|
  L1 (out1 ++ [s2]) (wi (i1 + (1 : Int))))
  (L1 out1 (wi (i1 + (1 : Int)))))
  (some out1))
  (some out1)

def ref_Part05L1 (l : List Seg) (write : Bool) : Nat → (List Seg) → Int → Option (List Seg)
  | 0, _, _ => none
  | nf + 1, out1, i1 => ref_Part05L1B l write (ref_Part05L1 l write nf) out1 i1

/-- dumbwaiterref05.Part -/
def ref_Part05 (l : List Seg) (write : Bool) : Option (List Seg) :=
  ref_Part05L1 l write fuel [] (0 : Int)

def ref_Scatter05J2 (i1 : Int) (L1 : (List (List UInt8)) → Int → Int → Option (Int × Int × (List (List UInt8)))) (rows2 : List (List UInt8)) (n2 : Int) : Option (Int × Int × (List (List UInt8))) :=
  L1 rows2 n2 (wi (i1 + (1 : Int)))

def ref_Scatter05J3 (i1 : Int) (L1 : (List (List UInt8)) → Int → Int → Option (Int × Int × (List (List UInt8)))) (rows3 : List (List UInt8)) (n3 : Int) : Option (Int × Int × (List (List UInt8))) :=
  ref_Scatter05J2 i1 L1 rows3 n3

def ref_Scatter05L1B (m : dumbwaiterref02_Mem) (l : List Seg) (b : List UInt8) (L1 : (List (List UInt8)) → Int → Int → Option (Int × Int × (List (List UInt8)))) (rows1 : List (List UInt8)) (n1 : Int) (i1 : Int) : Option (Int × Int × (List (List UInt8))) :=
  br (decide (i1 < (len l)))
  (ob (ix l i1) fun s1 =>
  br (s1.Write)
  (ob (ix l i1) fun s2 =>
  ob (ix l i1) fun s3 =>
  chk (decide (0 ≤ n1 ∧ n1 ≤ (wi (n1 + (mini (wi ((len b) - n1)) (i32 s2.Len)))) ∧ (wi (n1 + (mini (wi ((len b) - n1)) (i32 s2.Len)))) ≤ len b)) <|
  ob (ref_Mem_Write02 (dumbwaiterref02_Mem.mk m.L rows1) s3.At (sub b n1 (wi (n1 + (mini (wi ((len b) - n1)) (i32 s2.Len)))))) fun write1 =>
  ref_Scatter05J3 i1 L1 write1.2 (wi (n1 + (mini (wi ((len b) - n1)) (i32 s2.Len)))))
  (ref_Scatter05J3 i1 L1 rows1 n1))
  (some (n1, (0 : Int), rows1))

def ref_Scatter05L1 (m : dumbwaiterref02_Mem) (l : List Seg) (b : List UInt8) : Nat → (List (List UInt8)) → Int → Int → Option (Int × Int × (List (List UInt8)))
  | 0, _, _, _ => none
  | nf + 1, rows1, n1, i1 => ref_Scatter05L1B m l b (ref_Scatter05L1 m l b nf) rows1 n1 i1

/-- dumbwaiterref05.Scatter -/
def ref_Scatter05 (m : dumbwaiterref02_Mem) (l : List Seg) (b : List UInt8) : Option (Int × Int × (List (List UInt8))) :=
  ob (ref_In05 m l) fun in1 =>
  br (in1 != (0 : Int))
  (some ((0 : Int), in1, m.B))
  (ref_Scatter05L1 m l b fuel m.B (0 : Int) (0 : Int))

def ref_Cut05J2 (from1 : UInt64) (n1 : UInt64) (i1 : Int) (L1 : UInt64 → UInt64 → (List Seg) → Int → Option (List Seg)) (s1 : Seg) (out2 : List Seg) : Option (List Seg) :=
  L1 (0 : UInt64) (n1 - (minu64 (s1.Len.toUInt64 - from1) n1)) out2 (wi (i1 + (1 : Int)))

def ref_Cut05L1B (l : List Seg) (L1 : UInt64 → UInt64 → (List Seg) → Int → Option (List Seg)) (from1 : UInt64) (n1 : UInt64) (out1 : List Seg) (i1 : Int) : Option (List Seg) :=
  br (decide (i1 < (len l)))
  (ob (ref_Check05 l) fun check1 =>
  br (check1 == (0 : Int))
  (ob (ix l i1) fun s1 =>
  br (decide (from1 ≥ s1.Len.toUInt64))
  (L1 (from1 - s1.Len.toUInt64) n1 out1 (wi (i1 + (1 : Int))))
  (br (decide ((minu64 (s1.Len.toUInt64 - from1) n1) > (0 : UInt64)))
  (chk (fits out1.length [(Seg.mk (s1.At + from1) ((minu64 (s1.Len.toUInt64 - from1) n1).toUInt32) s1.Write)].length 16) <|
  ref_Cut05J2 from1 n1 i1 L1 s1 (out1 ++ [(Seg.mk (s1.At + from1) ((minu64 (s1.Len.toUInt64 - from1) n1).toUInt32) s1.Write)]))
  (ref_Cut05J2 from1 n1 i1 L1 s1 out1)))
  (some out1))
  (some out1)

def ref_Cut05L1 (l : List Seg) : Nat → UInt64 → UInt64 → (List Seg) → Int → Option (List Seg)
  | 0, _, _, _, _ => none
  | nf + 1, from1, n1, out1, i1 => ref_Cut05L1B l (ref_Cut05L1 l nf) from1 n1 out1 i1

/-- dumbwaiterref05.Cut -/
def ref_Cut05 (l : List Seg) (fromp1 : UInt64) (np2 : UInt64) : Option (List Seg) :=
  ref_Cut05L1 l fuel fromp1 np2 [] (0 : Int)

/-- dumbwaiterref21.Do -/
def ref_Do21 (m : dumbwaiterref02_Mem) (sp1 : dumbwaiterref20_Store) (feats : UInt64) (name : List UInt8) (l : List Seg) : Option (UInt32 × Int × (List (List UInt8)) × dumbwaiterref20_Store) :=
  ob (ref_In05 m l) fun in1 =>
  br (in1 != (0 : Int))
  (some ((0 : UInt32), in1, m.B, sp1))
  (ob (ref_Total05 l) fun total1 =>
  br (decide (total1.1 < (16 : UInt64)))
  (some ((0 : UInt32), (0 : Int), m.B, sp1))
  (br (decide (total1.2 < (1 : UInt64)))
  (some ((0 : UInt32), (0 : Int), m.B, sp1))
  (ob (ref_Gather05 m l) fun gather1 =>
  ob (ref_Read21 gather1.1) fun read1 =>
  chk (decide (0 ≤ (16 : Int) ∧ (16 : Int) ≤ (len gather1.1) ∧ (len gather1.1) ≤ len gather1.1)) <|
  ob (ref_apply21 sp1 feats name (Req.mk read1.1.Type_ read1.1.Sector read1.1.Data (wi ((i64 total1.2) - (1 : Int))) read1.1.Ranges) (sub gather1.1 (16 : Int) (len gather1.1))) fun apply1 =>
  ob (ref_Part05 l true) fun part1 =>
  ob (ref_Scatter05 m part1 apply1.1) fun scatte1 =>
  ob (ref_Cut05 part1 (total1.2 - (1 : UInt64)) (1 : UInt64)) fun cut1 =>
  ob (ref_Scatter05 (dumbwaiterref02_Mem.mk m.L scatte1.2.2) cut1 [apply1.2.1]) fun scatte2 =>
  some ((u32 (len apply1.1)) + (1 : UInt32), (0 : Int), scatte2.2.2, apply1.2.2))))

/-- slices.Clone[[]byte,byte] -/
def slices_Clone_bytebyte (sp0 : List UInt8) : Option (List UInt8) :=
  chk (fits ([] : List UInt8).length sp0.length 1) <|
  some sp0

/-- (*gmem.Mem).Read -/
def gmem_Mem_Read (m : gmem_Mem) (atp1 : UInt64) (np2 : Int) : Option ((List UInt8) × Int) :=
  ob (gmem_Mem_made m) fun made1 =>
  br (decide (np2 < (0 : Int)))
  (some (([] : List UInt8), (2 : Int)))
  (br (np2 == (0 : Int))
  (some (([] : List UInt8), (0 : Int)))
  (ob (gmem_Mem_bytes m atp1 (u64 np2)) fun bytes1 =>
  onO bytes1
  (some (([] : List UInt8), (5 : Int)))
  (fun w1 =>
  ob (ix m.b w1.1) fun row1 =>
  chk (decide (0 ≤ w1.2.1 ∧ w1.2.1 ≤ w1.2.2 ∧ w1.2.2 ≤ len row1)) <|
  chk (decide (w1.2.1 < w1.2.2)) <|
  ob (slices_Clone_bytebyte (sub row1 w1.2.1 w1.2.2)) fun cloneb1 =>
  some (cloneb1, (0 : Int)))))

def seg_InL1B (m : gmem_Mem) (l : List Seg) (L1 : Int → Option Int) (x1 : Int) : Option Int :=
  br (decide (x1 < (len l)))
  (ob (ix l x1) fun s1 =>
  ob (gmem_Mem_Has m s1.At s1.Len.toUInt64) fun has1 =>
  br ((!has1))
  (some (5 : Int))
  (L1 (wi (x1 + (1 : Int)))))
  (some (0 : Int))

def seg_InL1 (m : gmem_Mem) (l : List Seg) : Nat → Int → Option Int
  | 0, _ => none
  | nf + 1, x1 => seg_InL1B m l (seg_InL1 m l nf) x1

/-- seg.In -/
def seg_In (m : gmem_Mem) (l : List Seg) : Option Int :=
  ob (gmem_Mem_Read m (0 : UInt64) (0 : Int)) fun read1 =>
  br (read1.2 != (0 : Int))
  (some read1.2)
  (ob (seg_Check l) fun check1 =>
  br (check1 != (0 : Int))
  (some check1)
  (seg_InL1 m l fuel (0 : Int)))

def slices_Grow_bytebyten0J1 (np1 : Int)  : Option (List UInt8) :=
  br (decide ((wi (np1 - (wi ((0 : Int) - (0 : Int))))) > (0 : Int)))
  (chk (decide (0 ≤ (wi (np1 - (wi ((0 : Int) - (0 : Int))))) ∧ (1 : Int) * (wi (np1 - (wi ((0 : Int) - (0 : Int))))) ≤ 140737488355328)) <|
  chk (decide (0 ≤ (0 : Int) ∧ (0 : Int) ≤ len (List.replicate (wi (np1 - (wi ((0 : Int) - (0 : Int))))).toNat (0 : UInt8)))) <|
  some ((List.replicate (wi (np1 - (wi ((0 : Int) - (0 : Int))))).toNat (0 : UInt8)).take (0 : Int).toNat))
  (some ([] : List UInt8))

/-- slices.Grow[[]byte,byte] -/
def slices_Grow_bytebyten0 (np1 : Int) : Option (List UInt8) :=
  chk (!(decide (np1 < (0 : Int)))) <|
  slices_Grow_bytebyten0J1 np1

def slices_Concat_bytebyteJ2 (x1 : Int) (L1 : Int → Int → Option (List UInt8)) (size2 : Int) : Option (List UInt8) :=
  L1 size2 (wi (x1 + (1 : Int)))

def slices_Concat_bytebyteJ3 (size1 : Int) (x1 : Int) (L1 : Int → Int → Option (List UInt8)) (y1 : List UInt8)  : Option (List UInt8) :=
  slices_Concat_bytebyteJ2 x1 L1 (wi (size1 + (len y1)))

def slices_Concat_bytebyteL4B (slices : List (List UInt8)) (L4 : (List UInt8) → Int → Option (List UInt8)) (newslice1 : List UInt8) (x2 : Int) : Option (List UInt8) :=
  br (decide (x2 < (len slices)))
  (ob (ix slices x2) fun y2 =>
  chk (fits newslice1.length y2.length 1) <|
  L4 (newslice1 ++ y2) (wi (x2 + (1 : Int))))
  (some newslice1)

def slices_Concat_bytebyteL4 (slices : List (List UInt8)) : Nat → (List UInt8) → Int → Option (List UInt8)
  | 0, _, _ => none
  | nf + 1, newslice1, x2 => slices_Concat_bytebyteL4B slices (slices_Concat_bytebyteL4 slices nf) newslice1 x2

def slices_Concat_bytebyteL1B (slices : List (List UInt8)) (L1 : Int → Int → Option (List UInt8)) (size1 : Int) (x1 : Int) : Option (List UInt8) :=
  br (decide (x1 < (len slices)))
  (ob (ix slices x1) fun y1 =>
  chk (!(decide ((wi (size1 + (len y1))) < (0 : Int)))) <|
  slices_Concat_bytebyteJ3 size1 x1 L1 y1)
  (ob (slices_Grow_bytebyten0 size1) fun growby1 =>
  slices_Concat_bytebyteL4 slices fuel growby1 (0 : Int))

def slices_Concat_bytebyteL1 (slices : List (List UInt8)) : Nat → Int → Int → Option (List UInt8)
  | 0, _, _ => none
  | nf + 1, size1, x1 => slices_Concat_bytebyteL1B slices (slices_Concat_bytebyteL1 slices nf) size1 x1

/-- slices.Concat[[]byte,byte] -/
def slices_Concat_bytebyte (slices : List (List UInt8)) : Option (List UInt8) :=
  slices_Concat_bytebyteL1 slices fuel (0 : Int) (0 : Int)

def seg_GatherL1B (m : gmem_Mem) (part1 : (List Seg)) (L1 : (List (List UInt8)) → (List Seg) → Int → Option ((List UInt8) × Int)) (parts1 : List (List UInt8)) (l1 : List Seg) (x1 : Int) : Option ((List UInt8) × Int) :=
  br (decide (x1 < (len part1)))
  (ob (ix l1 x1) fun s1 =>
  ob (gmem_Mem_Read m s1.At (i32 s1.Len)) fun read1 =>
  br (read1.2 != (0 : Int))
  (some (([] : List UInt8), read1.2))
  (chk (fits parts1.length [read1.1].length 24) <|
  L1 (parts1 ++ [read1.1]) l1 (wi (x1 + (1 : Int)))))
  (ob (slices_Concat_bytebyte parts1) fun concat1 =>
  some (concat1, (0 : Int)))

def seg_GatherL1 (m : gmem_Mem) (part1 : (List Seg)) : Nat → (List (List UInt8)) → (List Seg) → Int → Option ((List UInt8) × Int)
  | 0, _, _, _ => none
  | nf + 1, parts1, l1, x1 => seg_GatherL1B m part1 (seg_GatherL1 m part1 nf) parts1 l1 x1

/-- seg.Gather -/
def seg_Gather (m : gmem_Mem) (l : List Seg) : Option ((List UInt8) × Int) :=
  ob (seg_In m l) fun in1 =>
  br (in1 != (0 : Int))
  (some (([] : List UInt8), in1))
  (ob (seg_Part l false) fun part1 =>
  seg_GatherL1 m part1 fuel [] part1 (0 : Int))

def blkdrv_ResultL1B (m : gmem_Mem) (written : UInt32) (part1 : (List Seg)) (total1 : (UInt64 × UInt64)) (L1 : (List Seg) → Int → Option ((List UInt8) × UInt8 × Int)) (l1 : List Seg) (x1 : Int) : Option ((List UInt8) × UInt8 × Int) :=
  br (decide (x1 < (len part1)))
  (ob (ix l1 x1) fun s1 =>
  L1 (l1.set x1.toNat (Seg.mk s1.At s1.Len false)) (wi (x1 + (1 : Int))))
  (ob (seg_Gather m l1) fun gather1 =>
  br (gather1.2 != (0 : Int))
  (some (([] : List UInt8), (0 : UInt8), gather1.2))
  (ob (ix gather1.1 ((total1.2 - (1 : UInt64)).toNat : Int)) fun y1 =>
  br (y1 != (0 : UInt8))
  (some (([] : List UInt8), y1, (0 : Int)))
  (chk (decide (0 ≤ (0 : Int) ∧ (0 : Int) ≤ ((written - (1 : UInt32)).toNat : Int) ∧ ((written - (1 : UInt32)).toNat : Int) ≤ ((written - (1 : UInt32)).toNat : Int) ∧ ((written - (1 : UInt32)).toNat : Int) ≤ len gather1.1)) <|
  some (sub gather1.1 (0 : Int) ((written - (1 : UInt32)).toNat : Int), y1, (0 : Int)))))

def blkdrv_ResultL1 (m : gmem_Mem) (written : UInt32) (part1 : (List Seg)) (total1 : (UInt64 × UInt64)) : Nat → (List Seg) → Int → Option ((List UInt8) × UInt8 × Int)
  | 0, _, _ => none
  | nf + 1, l1, x1 => blkdrv_ResultL1B m written part1 total1 (blkdrv_ResultL1 m written part1 total1 nf) l1 x1

/-- blkdrv.Result -/
def blkdrv_Result (m : gmem_Mem) (l : List Seg) (written : UInt32) : Option ((List UInt8) × UInt8 × Int) :=
  ob (seg_In m l) fun in1 =>
  br (in1 != (0 : Int))
  (some (([] : List UInt8), (0 : UInt8), in1))
  (ob (seg_Part l true) fun part1 =>
  ob (seg_Total part1) fun total1 =>
  br (total1.2 == (0 : UInt64))
  (some (([] : List UInt8), (0 : UInt8), (2 : Int)))
  (br (written == (0 : UInt32))
  (some (([] : List UInt8), (0 : UInt8), (4 : Int)))
  (br (decide (written.toUInt64 > total1.2))
  (some (([] : List UInt8), (0 : UInt8), (4 : Int)))
  (blkdrv_ResultL1 m written part1 total1 fuel part1 (0 : Int)))))

/-- blkdrv.Size -/
def blkdrv_Size (rp0 : Req) : Option (Int × Int) :=
  ob (blk_Bytes rp0) fun bytes1 =>
  br (bytes1.2 != (0 : Int))
  (some ((0 : Int), bytes1.2))
  (some (wi ((wi ((len bytes1.1) + rp0.Room)) + (1 : Int)), (0 : Int)))

def blkdrv_ConfigL1B  (L1 : (List UInt8) → Int → UInt64 → Option (List UInt8)) (b1 : List UInt8) (i1 : Int) (v2 : UInt64) : Option (List UInt8) :=
  br (decide (i1 < (8 : Int)))
  (chk (fits b1.length [v2.toUInt8].length 1) <|
  L1 (b1 ++ [v2.toUInt8]) (wi (i1 + (1 : Int))) (shr64 v2 ((8 : UInt64).toNat)))
  (some b1)

def blkdrv_ConfigL1  : Nat → (List UInt8) → Int → UInt64 → Option (List UInt8)
  | 0, _, _, _ => none
  | nf + 1, b1, i1, v2 => blkdrv_ConfigL1B (blkdrv_ConfigL1 nf) b1 i1 v2

/-- blkdrv.Config -/
def blkdrv_Config (np0 : Int) : Option (List UInt8) :=
  blkdrv_ConfigL1 fuel [] (0 : Int) (u64 (maxi np0 (0 : Int)))

def blkdrv_CapacityL1B (config : List UInt8) (L1 : UInt64 → Int → Option UInt64) (n1 : UInt64) (i1 : Int) : Option UInt64 :=
  br (decide (i1 ≥ (0 : Int)))
  (ob (ix config i1) fun y1 =>
  L1 ((shl64 n1 ((8 : UInt64).toNat)) ||| y1.toUInt64) (wi (i1 - (1 : Int))))
  (some n1)

def blkdrv_CapacityL1 (config : List UInt8) : Nat → UInt64 → Int → Option UInt64
  | 0, _, _ => none
  | nf + 1, n1, i1 => blkdrv_CapacityL1B config (blkdrv_CapacityL1 config nf) n1 i1

/-- blkdrv.Capacity -/
def blkdrv_Capacity (config : List UInt8) : Option UInt64 :=
  br (decide ((len config) < (8 : Int)))
  (some (0 : UInt64))
  (blkdrv_CapacityL1 config fuel (0 : UInt64) (7 : Int))

def kit_SameSegsL1B (ap0 : List Seg) (b : List Seg) (L1 : Int → Option Bool) (i1 : Int) : Option Bool :=
  br (decide (i1 < (len ap0)))
  (ob (ix ap0 i1) fun s1 =>
  ob (ix b i1) fun s2 =>
  br (s1 != s2)
  (some false)
  (L1 (wi (i1 + (1 : Int)))))
  (some true)

def kit_SameSegsL1 (ap0 : List Seg) (b : List Seg) : Nat → Int → Option Bool
  | 0, _ => none
  | nf + 1, i1 => kit_SameSegsL1B ap0 b (kit_SameSegsL1 ap0 b nf) i1

/-- dumbwaiterkit.SameSegs -/
def kit_SameSegs (ap0 : List Seg) (b : List Seg) : Option Bool :=
  br ((len ap0) != (len b))
  (some false)
  (kit_SameSegsL1 ap0 b fuel (0 : Int))

/-- dumbwaiterlaw22.lives -/
def law22zlives  : Option Bool :=
  ob (gmem_New [(Region.mk (0 : UInt64) (4096 : UInt64))]) fun new1 =>
  onO new1.1
  (none)
  (fun mem1 =>
  br (new1.2 != (0 : Int))
  (some false)
  (ob (blkdrv_Lay mem1 (100 : UInt64) (Req.mk (0 : UInt32) (0 : UInt64) ([] : List UInt8) (512 : Int) ([] : List Range)) [(4 : Int)]) fun lay1 =>
  ob (blkdrv_Size (Req.mk (0 : UInt32) (0 : UInt64) ([] : List UInt8) (512 : Int) ([] : List Range))) fun size1 =>
  br (lay1.2.1 == (0 : Int))
  (br (size1.2 == (0 : Int))
  (br (size1.1 == (529 : Int))
  (ob (blkdrv_Config (5 : Int)) fun config1 =>
  ob (blkdrv_Capacity config1) fun capaci1 =>
  br (capaci1 == (5 : UInt64))
  (ob (kit_SameSegs lay1.1 [(Seg.mk (100 : UInt64) (4 : UInt32) false), (Seg.mk (104 : UInt64) (12 : UInt32) false), (Seg.mk (116 : UInt64) (4 : UInt32) true), (Seg.mk (120 : UInt64) (509 : UInt32) true)]) fun samese1 =>
  some samese1)
  (some false))
  (some false))
  (some false))
  (some false)))

/-- dumbwaiterkit.LightReq -/
def kit_LightReq (rp0 : Req) (most : Int) : Option Bool :=
  br (decide ((len rp0.Data) ≤ most))
  (br (decide ((len rp0.Ranges) ≤ (40 : Int)))
  (some (decide (rp0.Room ≤ most)))
  (some false))
  (some false)

/-- dumbwaiterref21.ranged -/
def ref_ranged21 (tp0 : UInt32) : Option Bool :=
  br (tp0 == (11 : UInt32))
  (some true)
  (some (tp0 == (13 : UInt32)))

/-- dumbwaiterref21.Check -/
def ref_Check21 (rp0 : Req) : Option Int :=
  br (decide ((len rp0.Ranges) > (16 : Int)))
  (some (2 : Int))
  (br (decide ((len rp0.Ranges) > (0 : Int)))
  (ob (ref_ranged21 rp0.Type_) fun ranged1 =>
  br ((!ranged1))
  (some (2 : Int))
  (br (decide ((len rp0.Data) > (0 : Int)))
  (some (2 : Int))
  (br (decide (rp0.Room < (0 : Int)))
  (some (2 : Int))
  (some (0 : Int)))))
  (br (decide (rp0.Room < (0 : Int)))
  (some (2 : Int))
  (some (0 : Int))))

/-- dumbwaiterlaw22.memory -/
def law22zmemory  : Option (List Region) :=
  some [(Region.mk (0 : UInt64) (16384 : UInt64))]

/-- dumbwaiterkit.Pick -/
def kit_Pick (np0 : Int) (m : Int) : Option Int :=
  br (decide (m < (1 : Int)))
  (some (0 : Int))
  (chk (!(m == 0)) <|
  br (decide ((remi np0 m) < (0 : Int)))
  (some (wi ((remi np0 m) + m)))
  (some (remi np0 m)))

/-- dumbwaiterkit.Own -/
def kit_Own (b : List UInt8) : Option (List UInt8) :=
  chk (fits ([] : List UInt8).length b.length 1) <|
  some b

/-- dumbwaiterkit.Req -/
def kit_Req (rp0 : Req) : Option Req :=
  ob (kit_Own rp0.Data) fun own1 =>
  chk (fits ([] : List Range).length rp0.Ranges.length 16) <|
  some (Req.mk rp0.Type_ rp0.Sector own1 rp0.Room rp0.Ranges)

/-- (*gmem.Mem).Image -/
def gmem_Mem_Image (m : gmem_Mem) : Option (List UInt8) :=
  ob (gmem_Mem_made m) fun made1 =>
  ob (slices_Concat_bytebyte m.b) fun concat1 =>
  some concat1

def ref_Mem_Image02L1B (m : dumbwaiterref02_Mem) (L1 : (List UInt8) → Int → Option (List UInt8)) (out1 : List UInt8) (i1 : Int) : Option (List UInt8) :=
  br (decide (i1 < (len m.B)))
  (ob (ix m.B i1) fun row1 =>
  chk (fits out1.length row1.length 1) <|
  L1 (out1 ++ row1) (wi (i1 + (1 : Int))))
  (some out1)

def ref_Mem_Image02L1 (m : dumbwaiterref02_Mem) : Nat → (List UInt8) → Int → Option (List UInt8)
  | 0, _, _ => none
  | nf + 1, out1, i1 => ref_Mem_Image02L1B m (ref_Mem_Image02L1 m nf) out1 i1

/-- (*dumbwaiterref02.Mem).Image -/
def ref_Mem_Image02 (m : dumbwaiterref02_Mem) : Option (List UInt8) :=
  ref_Mem_Image02L1 m fuel [] (0 : Int)

def ref_word21L1B (arg1 : UInt64) (np2 : Int) (L1 : (List UInt8) → Int → Option (List UInt8)) (b1 : List UInt8) (i1 : Int) : Option (List UInt8) :=
  br (decide (i1 < np2))
  (chk (fits b1.length [(shr64 arg1 ((u64 (wi ((8 : Int) * i1))).toNat)).toUInt8].length 1) <|
  L1 (b1 ++ [(shr64 arg1 ((u64 (wi ((8 : Int) * i1))).toNat)).toUInt8]) (wi (i1 + (1 : Int))))
  (some b1)

def ref_word21L1 (arg1 : UInt64) (np2 : Int) : Nat → (List UInt8) → Int → Option (List UInt8)
  | 0, _, _ => none
  | nf + 1, b1, i1 => ref_word21L1B arg1 np2 (ref_word21L1 arg1 np2 nf) b1 i1

/-- dumbwaiterref21.word -/
def ref_word21 (b : List UInt8) (arg1 : UInt64) (np2 : Int) : Option (List UInt8) :=
  ref_word21L1 arg1 np2 fuel b (0 : Int)

def ref_Bytes21L1B  (L1 : UInt32 → UInt64 → (List UInt8) → Int → (List Range) → (List UInt8) → Int → Option ((List UInt8) × Int)) (Type1 : UInt32) (Sector1 : UInt64) (Data1 : List UInt8) (Room1 : Int) (Ranges1 : List Range) (b2 : List UInt8) (i1 : Int) : Option ((List UInt8) × Int) :=
  br (decide (i1 < (len Ranges1)))
  (ob (ix Ranges1 i1) fun r1 =>
  ob (ref_word21 b2 r1.Sector (8 : Int)) fun word4 =>
  ob (ref_word21 word4 r1.Count.toUInt64 (4 : Int)) fun word5 =>
  ob (ref_word21 word5 r1.Flags.toUInt64 (4 : Int)) fun word6 =>
  L1 Type1 Sector1 Data1 Room1 Ranges1 word6 (wi (i1 + (1 : Int))))
  (chk (fits b2.length Data1.length 1) <|
  some (b2 ++ Data1, (0 : Int)))

def ref_Bytes21L1  : Nat → UInt32 → UInt64 → (List UInt8) → Int → (List Range) → (List UInt8) → Int → Option ((List UInt8) × Int)
  | 0, _, _, _, _, _, _, _ => none
  | nf + 1, Type1, Sector1, Data1, Room1, Ranges1, b2, i1 => ref_Bytes21L1B (ref_Bytes21L1 nf) Type1 Sector1 Data1 Room1 Ranges1 b2 i1

/-- dumbwaiterref21.Bytes -/
def ref_Bytes21 (rp0 : Req) : Option ((List UInt8) × Int) :=
  ob (ref_Check21 rp0) fun check1 =>
  br (check1 != (0 : Int))
  (some (([] : List UInt8), check1))
  (ob (ref_word21 ([] : List UInt8) rp0.Type_.toUInt64 (4 : Int)) fun word1 =>
  ob (ref_word21 word1 (0 : UInt64) (4 : Int)) fun word2 =>
  ob (ref_word21 word2 rp0.Sector (8 : Int)) fun word3 =>
  ref_Bytes21L1 fuel rp0.Type_ rp0.Sector rp0.Data rp0.Room rp0.Ranges word3 (0 : Int))

/-- dumbwaiterref21.data -/
def ref_data21 (rp0 : Req) : Option (List UInt8) :=
  ob (ref_Bytes21 rp0) fun bytes1 =>
  chk (decide (0 ≤ (16 : Int) ∧ (16 : Int) ≤ (len bytes1.1) ∧ (len bytes1.1) ≤ len bytes1.1)) <|
  some (sub bytes1.1 (16 : Int) (len bytes1.1))

/-- dumbwaiterref21.Apply -/
def ref_Apply21 (sp0 : dumbwaiterref20_Store) (feats : UInt64) (name : List UInt8) (rp3 : Req) : Option ((List UInt8) × UInt8 × Int × dumbwaiterref20_Store) :=
  ob (ref_Check21 rp3) fun check1 =>
  br (check1 != (0 : Int))
  (some (([] : List UInt8), (0 : UInt8), check1, sp0))
  (ob (ref_data21 rp3) fun data1 =>
  ob (ref_apply21 sp0 feats name rp3 data1) fun apply1 =>
  some (apply1.1, apply1.2.1, (0 : Int), apply1.2.2))

/-- dumbwaiterlaw22.BlkdrvBack -/
def law22zBlkdrvBack (rp0 : Req) (atp1 : Int) (cuts : List Int) (image : List UInt8) (feats : UInt64) : Option Bool :=
  ob (law22zlives) fun lives1 =>
  chk (!((!lives1))) <|
  ob (kit_LightReq rp0 (6000 : Int)) fun lightr1 =>
  br ((!lightr1))
  (some true)
  (br (decide ((len cuts) > (70 : Int)))
  (some true)
  (br (decide ((len image) > (6000 : Int)))
  (some true)
  (ob (blkdrv_Size rp0) fun size1 =>
  br (size1.2 != (0 : Int))
  (ob (ref_Check21 rp0) fun check1 =>
  chk (size1.2 == check1) <|
  some true)
  (ob (law22zmemory) fun memory1 =>
  ob (ref_New02 memory1) fun new1 =>
  onO new1.1
  (none)
  (fun mem1 =>
  ob (law22zmemory) fun memory2 =>
  ob (gmem_New memory2) fun new2 =>
  onO new2.1
  (none)
  (fun mem2 =>
  chk (!(new1.2 != (0 : Int))) <|
  chk (!(new2.2 != (0 : Int))) <|
  ob (kit_Pick atp1 (16384 : Int)) fun pick1 =>
  ob (kit_Req rp0) fun req1 =>
  ob (blkdrv_Lay mem2 (u64 pick1) req1 cuts) fun lay1 =>
  br (decide (((u64 pick1) + (u64 size1.1)) > (16384 : UInt64)))
  (chk (lay1.2.1 == (5 : Int)) <|
  some true)
  (ob (ref_Of20 image) fun of1 =>
  onO of1.1
  (ob (ref_Of20 image) fun of2 =>
  onO of2.1
  (br (lay1.2.1 != (0 : Int))
  (chk (lay1.2.1 == (0 : Int)) <|
  ob (ref_Check05 lay1.1) fun check2 =>
  chk (check2 == (0 : Int)) <|
  some true)
  (ob (ref_Check05 lay1.1) fun check3 =>
  br (check3 != (0 : Int))
  (chk (lay1.2.1 == (0 : Int)) <|
  ob (ref_Check05 lay1.1) fun check4 =>
  chk (check4 == (0 : Int)) <|
  some true)
  (chk (of1.2 != (0 : Int)) <|
  chk (lay1.2.1 == (0 : Int)) <|
  ob (ref_Check05 lay1.1) fun check5 =>
  chk (check5 == (0 : Int)) <|
  some true)))
  (fun store1 =>
  none))
  (fun store2 =>
  ob (ref_Of20 image) fun of3 =>
  onO of3.1
  (none)
  (fun store3 =>
  br (lay1.2.1 != (0 : Int))
  (chk (lay1.2.1 == (0 : Int)) <|
  ob (ref_Check05 lay1.1) fun check6 =>
  chk (check6 == (0 : Int)) <|
  some true)
  (ob (ref_Check05 lay1.1) fun check7 =>
  br (check7 != (0 : Int))
  (chk (lay1.2.1 == (0 : Int)) <|
  ob (ref_Check05 lay1.1) fun check8 =>
  chk (check8 == (0 : Int)) <|
  some true)
  (br (of1.2 != (0 : Int))
  (chk (lay1.2.1 == (0 : Int)) <|
  ob (ref_Check05 lay1.1) fun check9 =>
  chk (check9 == (0 : Int)) <|
  some true)
  (ob (gmem_Mem_Image (gmem_Mem.mk mem2.l lay1.2.2)) fun image2 =>
  ob (ref_Mem_Write02 mem1 (0 : UInt64) image2) fun write2 =>
  ob (ref_Do21 (dumbwaiterref02_Mem.mk mem1.L write2.2) store2 feats ([98, 111, 120] : List UInt8) lay1.1) fun do1 =>
  ob (ref_Mem_Image02 (dumbwaiterref02_Mem.mk mem1.L do1.2.2.1)) fun image3 =>
  ob (gmem_Mem_Write (gmem_Mem.mk mem2.l lay1.2.2) (0 : UInt64) image3) fun write3 =>
  chk (!(write3.1 != (0 : Int))) <|
  ob (blkdrv_Result (gmem_Mem.mk mem2.l write3.2) lay1.1 do1.1) fun result1 =>
  ob (ref_Apply21 store3 feats ([98, 111, 120] : List UInt8) rp0) fun apply1 =>
  chk (result1.2.2 == (0 : Int)) <|
  chk (result1.2.1 == apply1.2.1) <|
  chk (result1.1 == apply1.1) <|
  some true))))))))))))
end Go.Proofs.Ytkmjpgfbcklopaa
