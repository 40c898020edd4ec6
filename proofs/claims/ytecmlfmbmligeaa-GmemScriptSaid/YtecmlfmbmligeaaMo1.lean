/- What the functions reckon, as plain words. No statement of the seat is proved here; no condition. -/
import Derived.Test.YtecmlfmbmligeaaTy
namespace Go.Proofs.Ytecmlfmbmligeaa

def kit_LightRegionsL1B (l : List Region) (most : UInt64) (L1 : UInt64 → Int → Option Bool) (sum1 : UInt64) (i1 : Int) : Option Bool :=
  br (decide (i1 < (len l)))
  (ob (ix l i1) fun r1 =>
  L1 (sum1 + (minu64 r1.Len (1073741824 : UInt64))) (wi (i1 + (1 : Int))))
  (some (decide (sum1 ≤ most)))

def kit_LightRegionsL1 (l : List Region) (most : UInt64) : Nat → UInt64 → Int → Option Bool
  | 0, _, _ => none
  | nf + 1, sum1, i1 => kit_LightRegionsL1B l most (kit_LightRegionsL1 l most nf) sum1 i1

/-- dumbwaiterkit.LightRegions -/
def kit_LightRegions (l : List Region) (most : UInt64) : Option Bool :=
  br (decide ((len l) > (40 : Int)))
  (some false)
  (kit_LightRegionsL1 l most fuel (0 : UInt64) (0 : Int))

def law02zsmallL1B (l : List dumbwaiterlaw02_Act) (L1 : Int → Option Bool) (i1 : Int) : Option Bool :=
  br (decide (i1 < (len l)))
  (br (decide (i1 ≤ (80 : Int)))
  (ob (ix l i1) fun d1 =>
  br (decide ((len d1.B) > (2000 : Int)))
  (some false)
  (L1 (wi (i1 + (1 : Int)))))
  (some (decide ((len l) ≤ (80 : Int)))))
  (some (decide ((len l) ≤ (80 : Int))))

def law02zsmallL1 (l : List dumbwaiterlaw02_Act) : Nat → Int → Option Bool
  | 0, _ => none
  | nf + 1, i1 => law02zsmallL1B l (law02zsmallL1 l nf) i1

/-- dumbwaiterlaw02.small -/
def law02zsmall (l : List dumbwaiterlaw02_Act) : Option Bool :=
  law02zsmallL1 l fuel (0 : Int)

def gmem_CheckL1B (l : List Region) (L1 : UInt64 → Int → Option Int) (room1 : UInt64) (x1 : Int) : Option Int :=
  br (decide (x1 < (len l)))
  (ob (ix l x1) fun r1 =>
  br (decide (r1.Len < (1 : UInt64)))
  (some (2 : Int))
  (br (decide (r1.Len > room1))
  (some (2 : Int))
  (br (decide ((r1.Len - (1 : UInt64)) > ((18446744073709551615 : UInt64) - r1.At)))
  (some (2 : Int))
  (br (decide (x1 > (0 : Int)))
  (ob (ix l (wi (x1 - (1 : Int)))) fun r2 =>
  br (decide (r1.At ≤ r2.At))
  (some (2 : Int))
  (br (decide ((r1.At - r2.At) < r2.Len))
  (some (2 : Int))
  (L1 (room1 - r1.Len) (wi (x1 + (1 : Int))))))
  (L1 (room1 - r1.Len) (wi (x1 + (1 : Int))))))))
  (some (0 : Int))

def gmem_CheckL1 (l : List Region) : Nat → UInt64 → Int → Option Int
  | 0, _, _ => none
  | nf + 1, room1, x1 => gmem_CheckL1B l (gmem_CheckL1 l nf) room1 x1

/-- gmem.Check -/
def gmem_Check (l : List Region) : Option Int :=
  br (decide ((len l) > (16 : Int)))
  (some (2 : Int))
  (gmem_CheckL1 l fuel (1048576 : UInt64) (0 : Int))

/-- dumbwaiterkit.Regions -/
def kit_Regions (l : List Region) : Option (List Region) :=
  chk (fits ([] : List Region).length l.length 16) <|
  some l

/-- slices.Clone[[]api.Region,api.Region] -/
def slices_Clone_apiRegionapiRegion (sp0 : List Region) : Option (List Region) :=
  chk (fits ([] : List Region).length sp0.length 16) <|
  some sp0

def gmem_NewL1B (l : List Region) (region1 : (List Region)) (L1 : (List (List UInt8)) → Int → Option ((Option gmem_Mem) × Int)) (rows1 : List (List UInt8)) (x1 : Int) : Option ((Option gmem_Mem) × Int) :=
  br (decide (x1 < (len l)))
  (ob (ix l x1) fun r1 =>
  chk (decide (0 ≤ (r1.Len.toNat : Int) ∧ (r1.Len.toNat : Int) ≤ (r1.Len.toNat : Int) ∧ (1 : Int) * (r1.Len.toNat : Int) ≤ 140737488355328)) <|
  ob (ix rows1 x1) fun row1 =>
  L1 (rows1.set (Int.toNat x1) (List.replicate (Int.toNat (r1.Len.toNat : Int)) (0 : UInt8))) (wi (x1 + (1 : Int))))
  (some ((some (gmem_Mem.mk region1 rows1)), (0 : Int)))

def gmem_NewL1 (l : List Region) (region1 : (List Region)) : Nat → (List (List UInt8)) → Int → Option ((Option gmem_Mem) × Int)
  | 0, _, _ => none
  | nf + 1, rows1, x1 => gmem_NewL1B l region1 (gmem_NewL1 l region1 nf) rows1 x1

/-- gmem.New -/
def gmem_New (l : List Region) : Option ((Option gmem_Mem) × Int) :=
  ob (gmem_Check l) fun check1 =>
  br (check1 != (0 : Int))
  (some ((none : Option gmem_Mem), check1))
  (ob (slices_Clone_apiRegionapiRegion l) fun region1 =>
  chk (decide (0 ≤ (len l) ∧ (len l) ≤ (wi ((len l) + (1 : Int))) ∧ (24 : Int) * (wi ((len l) + (1 : Int))) ≤ 140737488355328)) <|
  gmem_NewL1 l region1 fuel (List.replicate (Int.toNat (len l)) [] : List (List UInt8)) (0 : Int))

/-- dumbwaiterkit.Own -/
def kit_Own (b : List UInt8) : Option (List UInt8) :=
  chk (fits ([] : List UInt8).length b.length 1) <|
  some b

/-- (*gmem.Mem).made -/
def gmem_Mem_made (m : gmem_Mem) : Option Bool :=
  some true

/-- (*gmem.Mem).bytes$1 -/
def gmem_Mem_bytes_1 (ip0 : Int) (arg1 : gmem_Mem) (arg2 : UInt64) : Option Bool :=
  ob (ix arg1.l ip0) fun r1 =>
  ob (ix arg1.l ip0) fun r2 =>
  some (decide (((r1.Len - (1 : UInt64)) + r2.At) ≥ arg2))

def sort_SearchFgmem_Mem_bytes_1L1B (fc0 : gmem_Mem) (fc1 : UInt64) (L1 : Int → Int → Option Int) (i1 : Int) (j1 : Int) : Option Int :=
  br (decide (i1 < j1))
  (ob (gmem_Mem_bytes_1 (i64 (shr64 (u64 (wi (i1 + j1))) ((1 : UInt64).toNat))) fc0 fc1) fun bytes1 =>
  br ((!bytes1))
  (L1 (wi ((i64 (shr64 (u64 (wi (i1 + j1))) ((1 : UInt64).toNat))) + (1 : Int))) j1)
  (L1 i1 (i64 (shr64 (u64 (wi (i1 + j1))) ((1 : UInt64).toNat)))))
  (some i1)

def sort_SearchFgmem_Mem_bytes_1L1 (fc0 : gmem_Mem) (fc1 : UInt64) : Nat → Int → Int → Option Int
  | 0, _, _ => none
  | nf + 1, i1, j1 => sort_SearchFgmem_Mem_bytes_1L1B fc0 fc1 (sort_SearchFgmem_Mem_bytes_1L1 fc0 fc1 nf) i1 j1

/-- sort.Search -/
def sort_SearchFgmem_Mem_bytes_1 (np0 : Int) (fc0 : gmem_Mem) (fc1 : UInt64) : Option Int :=
  sort_SearchFgmem_Mem_bytes_1L1 fc0 fc1 fuel (0 : Int) np0

/-- (*gmem.Mem).bytes -/
def gmem_Mem_bytes (m : gmem_Mem) (atp1 : UInt64) (np2 : UInt64) : Option (Option (Int × Int × Int)) :=
  br (decide (np2 < (1 : UInt64)))
  (some (none : Option (Int × Int × Int)))
  (ob (sort_SearchFgmem_Mem_bytes_1 (len m.l) m atp1) fun search1 =>
  br (search1 == (len m.l))
  (some (none : Option (Int × Int × Int)))
  (ob (ix m.l search1) fun r1 =>
  br (decide (atp1 < r1.At))
  (some (none : Option (Int × Int × Int)))
  (ob (ix m.l search1) fun r2 =>
  ob (ix m.l search1) fun r3 =>
  br (decide (np2 > (r3.Len - (atp1 - r2.At))))
  (some (none : Option (Int × Int × Int)))
  (ob (ix m.b search1) fun row1 =>
  chk (decide (0 ≤ ((atp1 - r2.At).toNat : Int) ∧ ((atp1 - r2.At).toNat : Int) ≤ (((atp1 - r2.At) + np2).toNat : Int) ∧ (((atp1 - r2.At) + np2).toNat : Int) ≤ len row1)) <|
  some (some (search1, ((atp1 - r2.At).toNat : Int), (((atp1 - r2.At) + np2).toNat : Int)))))))

/-- (*gmem.Mem).Write -/
def gmem_Mem_Write (m : gmem_Mem) (atp1 : UInt64) (arg2 : List UInt8) : Option (Int × (List (List UInt8))) :=
  ob (gmem_Mem_made m) fun made1 =>
  br ((len arg2) == (0 : Int))
  (some ((0 : Int), m.b))
  (ob (gmem_Mem_bytes m atp1 (u64 (len arg2))) fun bytes1 =>
  onO bytes1
  (some ((5 : Int), m.b))
  (fun w1 =>
  ob (ix m.b w1.1) fun row1 =>
  chk (decide (0 ≤ w1.2.1 ∧ w1.2.1 ≤ w1.2.2 ∧ w1.2.2 ≤ len row1)) <|
  chk (decide (w1.2.1 < w1.2.2)) <|
  some ((0 : Int), m.b.set (Int.toNat w1.1) (copyAt row1 w1.2.1 w1.2.2 arg2))))

/-- dumbwaiterlaw02.two -/
def law02ztwo  : Option (List Region) :=
  some [(Region.mk (100 : UInt64) (8 : UInt64)), (Region.mk (108 : UInt64) (4 : UInt64))]

/-- gmem.isWord -/
def gmem_isWord (np0 : Int) : Option Bool :=
  br (np0 == (1 : Int))
  (some true)
  (br (np0 == (2 : Int))
  (some true)
  (br (np0 == (4 : Int))
  (some true)
  (some (np0 == (8 : Int)))))

def gmem_Mem_StoreL1B (m : gmem_Mem) (bytes : Int) (vp3 : UInt64) (w1 : Int × Int × Int) (L1 : (List UInt8) → Int → Option (Int × (List (List UInt8)))) (row2 : List UInt8) (x1 : Int) : Option (Int × (List (List UInt8))) :=
  chk (decide (0 ≤ w1.2.1 ∧ w1.2.1 ≤ w1.2.2 ∧ w1.2.2 ≤ len row2)) <|
  br (decide (x1 < bytes))
  (chk (decide (0 ≤ wi ((8 : Int) * x1))) <|
  ob (ix (sub row2 w1.2.1 w1.2.2) x1) fun y1 =>
  L1 (row2.set (w1.2.1 + x1).toNat ((shr64 vp3 ((wi ((8 : Int) * x1)).toNat)).toUInt8)) (wi (x1 + (1 : Int))))
  (some ((0 : Int), m.b.set (Int.toNat w1.1) row2))

def gmem_Mem_StoreL1 (m : gmem_Mem) (bytes : Int) (vp3 : UInt64) (w1 : Int × Int × Int) : Nat → (List UInt8) → Int → Option (Int × (List (List UInt8)))
  | 0, _, _ => none
  | nf + 1, row2, x1 => gmem_Mem_StoreL1B m bytes vp3 w1 (gmem_Mem_StoreL1 m bytes vp3 w1 nf) row2 x1

/-- (*gmem.Mem).Store -/
def gmem_Mem_Store (m : gmem_Mem) (atp1 : UInt64) (bytes : Int) (vp3 : UInt64) : Option (Int × (List (List UInt8))) :=
  ob (gmem_Mem_made m) fun made1 =>
  ob (gmem_isWord bytes) fun isword1 =>
  br ((!isword1))
  (some ((2 : Int), m.b))
  (ob (gmem_Mem_bytes m atp1 (u64 bytes)) fun bytes1 =>
  onO bytes1
  (some ((5 : Int), m.b))
  (fun w1 =>
  ob (ix m.b w1.1) fun row1 =>
  chk (decide (0 ≤ w1.2.1 ∧ w1.2.1 ≤ w1.2.2 ∧ w1.2.2 ≤ len row1)) <|
  chk (decide (w1.2.1 < w1.2.2)) <|
  gmem_Mem_StoreL1 m bytes vp3 w1 fuel row1 (0 : Int)))

def gmem_Mem_LoadL1B (bytes : Int) (w1 : Int × Int × Int) (row1 : List UInt8) (L1 : UInt64 → Int → Option (UInt64 × Int)) (v1 : UInt64) (x1 : Int) : Option (UInt64 × Int) :=
  br (decide (x1 < bytes))
  (ob (ix (sub row1 w1.2.1 w1.2.2) x1) fun y1 =>
  chk (decide (0 ≤ wi ((8 : Int) * x1))) <|
  L1 (v1 ||| (shl64 y1.toUInt64 ((wi ((8 : Int) * x1)).toNat))) (wi (x1 + (1 : Int))))
  (some (v1, (0 : Int)))

def gmem_Mem_LoadL1 (bytes : Int) (w1 : Int × Int × Int) (row1 : List UInt8) : Nat → UInt64 → Int → Option (UInt64 × Int)
  | 0, _, _ => none
  | nf + 1, v1, x1 => gmem_Mem_LoadL1B bytes w1 row1 (gmem_Mem_LoadL1 bytes w1 row1 nf) v1 x1

/-- (*gmem.Mem).Load -/
def gmem_Mem_Load (m : gmem_Mem) (atp1 : UInt64) (bytes : Int) : Option (UInt64 × Int) :=
  ob (gmem_Mem_made m) fun made1 =>
  ob (gmem_isWord bytes) fun isword1 =>
  br ((!isword1))
  (some ((0 : UInt64), (2 : Int)))
  (ob (gmem_Mem_bytes m atp1 (u64 bytes)) fun bytes1 =>
  onO bytes1
  (some ((0 : UInt64), (5 : Int)))
  (fun w1 =>
  ob (ix m.b w1.1) fun row1 =>
  chk (decide (0 ≤ w1.2.1 ∧ w1.2.1 ≤ w1.2.2 ∧ w1.2.2 ≤ len row1)) <|
  chk (decide (w1.2.1 < w1.2.2)) <|
  gmem_Mem_LoadL1 bytes w1 row1 fuel (0 : UInt64) (0 : Int)))

/-- (*gmem.Mem).Has -/
def gmem_Mem_Has (m : gmem_Mem) (atp1 : UInt64) (np2 : UInt64) : Option Bool :=
  ob (gmem_Mem_made m) fun made1 =>
  ob (gmem_Mem_bytes m atp1 np2) fun bytes1 =>
  onO bytes1
  (some false)
  (fun w1 =>
  ob (ix m.b w1.1) fun row1 =>
  chk (decide (0 ≤ w1.2.1 ∧ w1.2.1 ≤ w1.2.2 ∧ w1.2.2 ≤ len row1)) <|
  chk (decide (w1.2.1 < w1.2.2)) <|
  some true)

/-- dumbwaiterlaw02.lives -/
def law02zlives  : Option Bool :=
  ob (law02ztwo) fun two1 =>
  ob (gmem_New two1) fun new1 =>
  onO new1.1
  (none)
  (fun mem1 =>
  br (new1.2 != (0 : Int))
  (some false)
  (ob (gmem_Mem_Store mem1 (102 : UInt64) (4 : Int) (1 : UInt64)) fun store1 =>
  br (store1.1 != (0 : Int))
  (some false)
  (ob (gmem_Mem_Load (gmem_Mem.mk mem1.l store1.2) (102 : UInt64) (2 : Int)) fun load1 =>
  ob (gmem_Mem_Load (gmem_Mem.mk mem1.l store1.2) (106 : UInt64) (4 : Int)) fun load2 =>
  br (load1.2 == (0 : Int))
  (br (load1.1 == (1 : UInt64))
  (br (load2.2 == (5 : Int))
  (ob (gmem_Mem_Has (gmem_Mem.mk mem1.l store1.2) (18446744073709551615 : UInt64) (2 : UInt64)) fun has1 =>
  some (!has1))
  (some false))
  (some false))
  (some false))))

/-- dumbwaiterkit.Pick -/
def kit_Pick (np0 : Int) (m : Int) : Option Int :=
  br (decide (m < (1 : Int)))
  (some (0 : Int))
  (chk (!(m == 0)) <|
  br (decide ((remi np0 m) < (0 : Int)))
  (some (wi ((remi np0 m) + m)))
  (some (remi np0 m)))

def slices_Grow_bytebyten0J1 (np1 : Int)  : Option (List UInt8) :=
  br (decide ((wi (np1 - (wi ((0 : Int) - (0 : Int))))) > (0 : Int)))
  (chk (decide (0 ≤ (wi (np1 - (wi ((0 : Int) - (0 : Int))))) ∧ (1 : Int) * (wi (np1 - (wi ((0 : Int) - (0 : Int))))) ≤ 140737488355328)) <|
  chk (decide (0 ≤ (0 : Int) ∧ (0 : Int) ≤ len (List.replicate (wi (np1 - (wi ((0 : Int) - (0 : Int))))).toNat (0 : UInt8)))) <|
  some ((List.replicate (wi (np1 - (wi ((0 : Int) - (0 : Int))))).toNat (0 : UInt8)).take (0 : Int).toNat))
  (some ([] : List UInt8))

/-- slices.Grow[[]byte,byte] -/
def slices_Grow_bytebyten0 (np1 : Int) : Option (List UInt8) :=
  chk (!(decide (np1 < (0 : Int)))) <|
  slices_Grow_bytebyten0J1 np1

def slices_Concat_bytebyteJ2 (x1 : Int) (L1 : Int → Int → Option (List UInt8)) (size2 : Int) : Option (List UInt8) :=
  L1 size2 (wi (x1 + (1 : Int)))

def slices_Concat_bytebyteJ3 (size1 : Int) (x1 : Int) (L1 : Int → Int → Option (List UInt8)) (y1 : List UInt8)  : Option (List UInt8) :=
  slices_Concat_bytebyteJ2 x1 L1 (wi (size1 + (len y1)))

def slices_Concat_bytebyteL4B (slices : List (List UInt8)) (L4 : (List UInt8) → Int → Option (List UInt8)) (newslice1 : List UInt8) (x2 : Int) : Option (List UInt8) :=
  br (decide (x2 < (len slices)))
  (ob (ix slices x2) fun y2 =>
  chk (fits newslice1.length y2.length 1) <|
  L4 (newslice1 ++ y2) (wi (x2 + (1 : Int))))
  (some newslice1)

def slices_Concat_bytebyteL4 (slices : List (List UInt8)) : Nat → (List UInt8) → Int → Option (List UInt8)
  | 0, _, _ => none
  | nf + 1, newslice1, x2 => slices_Concat_bytebyteL4B slices (slices_Concat_bytebyteL4 slices nf) newslice1 x2

def slices_Concat_bytebyteL1B (slices : List (List UInt8)) (L1 : Int → Int → Option (List UInt8)) (size1 : Int) (x1 : Int) : Option (List UInt8) :=
  br (decide (x1 < (len slices)))
  (ob (ix slices x1) fun y1 =>
  chk (!(decide ((wi (size1 + (len y1))) < (0 : Int)))) <|
  slices_Concat_bytebyteJ3 size1 x1 L1 y1)
  (ob (slices_Grow_bytebyten0 size1) fun growby1 =>
  slices_Concat_bytebyteL4 slices fuel growby1 (0 : Int))

def slices_Concat_bytebyteL1 (slices : List (List UInt8)) : Nat → Int → Int → Option (List UInt8)
  | 0, _, _ => none
  | nf + 1, size1, x1 => slices_Concat_bytebyteL1B slices (slices_Concat_bytebyteL1 slices nf) size1 x1

/-- slices.Concat[[]byte,byte] -/
def slices_Concat_bytebyte (slices : List (List UInt8)) : Option (List UInt8) :=
  slices_Concat_bytebyteL1 slices fuel (0 : Int) (0 : Int)

/-- (*gmem.Mem).Image -/
def gmem_Mem_Image (m : gmem_Mem) : Option (List UInt8) :=
  ob (gmem_Mem_made m) fun made1 =>
  ob (slices_Concat_bytebyte m.b) fun concat1 =>
  some concat1

/-- slices.Clone[[]byte,byte] -/
def slices_Clone_bytebyte (sp0 : List UInt8) : Option (List UInt8) :=
  chk (fits ([] : List UInt8).length sp0.length 1) <|
  some sp0

/-- (*gmem.Mem).Read -/
def gmem_Mem_Read (m : gmem_Mem) (atp1 : UInt64) (np2 : Int) : Option ((List UInt8) × Int) :=
  ob (gmem_Mem_made m) fun made1 =>
  br (decide (np2 < (0 : Int)))
  (some (([] : List UInt8), (2 : Int)))
  (br (np2 == (0 : Int))
  (some (([] : List UInt8), (0 : Int)))
  (ob (gmem_Mem_bytes m atp1 (u64 np2)) fun bytes1 =>
  onO bytes1
  (some (([] : List UInt8), (5 : Int)))
  (fun w1 =>
  ob (ix m.b w1.1) fun row1 =>
  chk (decide (0 ≤ w1.2.1 ∧ w1.2.1 ≤ w1.2.2 ∧ w1.2.2 ≤ len row1)) <|
  chk (decide (w1.2.1 < w1.2.2)) <|
  ob (slices_Clone_bytebyte (sub row1 w1.2.1 w1.2.2)) fun cloneb1 =>
  some (cloneb1, (0 : Int)))))

def ref_Check02L1B (l : List Region) (L1 : UInt64 → Int → Option Int) (sum1 : UInt64) (i1 : Int) : Option Int :=
  br (decide (i1 < (len l)))
  (ob (ix l i1) fun r1 =>
  br (r1.Len == (0 : UInt64))
  (some (2 : Int))
  (ob (ix l i1) fun r2 =>
  br (decide (r2.Len > (1048576 : UInt64)))
  (some (2 : Int))
  (ob (ix l i1) fun r3 =>
  ob (ix l i1) fun r4 =>
  ob (ix l i1) fun r5 =>
  br (decide ((r3.At + (r4.Len - (1 : UInt64))) < r5.At))
  (some (2 : Int))
  (ob (ix l i1) fun r6 =>
  br (decide (i1 > (0 : Int)))
  (ob (ix l i1) fun r7 =>
  ob (ix l (wi (i1 - (1 : Int)))) fun r8 =>
  ob (ix l (wi (i1 - (1 : Int)))) fun r9 =>
  br (decide (r7.At ≤ (r8.At + (r9.Len - (1 : UInt64)))))
  (some (2 : Int))
  (L1 (sum1 + r6.Len) (wi (i1 + (1 : Int)))))
  (L1 (sum1 + r6.Len) (wi (i1 + (1 : Int))))))))
  (br (decide (sum1 > (1048576 : UInt64)))
  (some (2 : Int))
  (some (0 : Int)))

def ref_Check02L1 (l : List Region) : Nat → UInt64 → Int → Option Int
  | 0, _, _ => none
  | nf + 1, sum1, i1 => ref_Check02L1B l (ref_Check02L1 l nf) sum1 i1

/-- dumbwaiterref02.Check -/
def ref_Check02 (l : List Region) : Option Int :=
  br (decide ((len l) > (16 : Int)))
  (some (2 : Int))
  (ref_Check02L1 l fuel (0 : UInt64) (0 : Int))

def ref_New02L1B (l : List Region) (L1 : (List Region) → (List (List UInt8)) → Int → Option ((Option dumbwaiterref02_Mem) × Int)) (l1 : List Region) (rows1 : List (List UInt8)) (i1 : Int) : Option ((Option dumbwaiterref02_Mem) × Int) :=
  br (decide (i1 < (len l)))
  (ob (ix l i1) fun r1 =>
  chk (decide (0 ≤ (r1.Len.toNat : Int) ∧ (r1.Len.toNat : Int) ≤ (r1.Len.toNat : Int) ∧ (1 : Int) * (r1.Len.toNat : Int) ≤ 140737488355328)) <|
  chk (fits rows1.length 1 24) <|
  L1 l1 (rows1 ++ [List.replicate (Int.toNat (r1.Len.toNat : Int)) (0 : UInt8)]) (wi (i1 + (1 : Int))))
  (some ((some (dumbwaiterref02_Mem.mk l1 rows1)), (0 : Int)))

def ref_New02L1 (l : List Region) : Nat → (List Region) → (List (List UInt8)) → Int → Option ((Option dumbwaiterref02_Mem) × Int)
  | 0, _, _, _ => none
  | nf + 1, l1, rows1, i1 => ref_New02L1B l (ref_New02L1 l nf) l1 rows1 i1

/-- dumbwaiterref02.New -/
def ref_New02 (l : List Region) : Option ((Option dumbwaiterref02_Mem) × Int) :=
  ob (ref_Check02 l) fun check1 =>
  br (check1 != (0 : Int))
  (some ((none : Option dumbwaiterref02_Mem), (2 : Int)))
  (chk (fits ([] : List Region).length l.length 16) <|
  ref_New02L1 l fuel l ([] : List (List UInt8)) (0 : Int))

def ref_Mem_find02L1B (m : dumbwaiterref02_Mem) (atp1 : UInt64) (np2 : UInt64) (L1 : Int → Option (Int × Int)) (i1 : Int) : Option (Int × Int) :=
  br (decide (i1 < (len m.L)))
  (ob (ix m.L i1) fun r1 =>
  br (decide (np2 ≥ (1 : UInt64)))
  (br (decide (atp1 ≥ r1.At))
  (br (decide (np2 ≤ r1.Len))
  (br (decide ((atp1 - r1.At) ≤ (r1.Len - np2)))
  (some (i1, i64 (atp1 - r1.At)))
  (L1 (wi (i1 + (1 : Int)))))
  (L1 (wi (i1 + (1 : Int)))))
  (L1 (wi (i1 + (1 : Int)))))
  (L1 (wi (i1 + (1 : Int)))))
  (some (((-1) : Int), (0 : Int)))

def ref_Mem_find02L1 (m : dumbwaiterref02_Mem) (atp1 : UInt64) (np2 : UInt64) : Nat → Int → Option (Int × Int)
  | 0, _ => none
  | nf + 1, i1 => ref_Mem_find02L1B m atp1 np2 (ref_Mem_find02L1 m atp1 np2 nf) i1

/-- (*dumbwaiterref02.Mem).find -/
def ref_Mem_find02 (m : dumbwaiterref02_Mem) (atp1 : UInt64) (np2 : UInt64) : Option (Int × Int) :=
  ref_Mem_find02L1 m atp1 np2 fuel (0 : Int)

/-- (*dumbwaiterref02.Mem).Write -/
def ref_Mem_Write02 (m : dumbwaiterref02_Mem) (atp1 : UInt64) (b : List UInt8) : Option (Int × (List (List UInt8))) :=
  br ((len b) == (0 : Int))
  (some ((0 : Int), m.B))
  (ob (ref_Mem_find02 m atp1 (u64 (len b))) fun find1 =>
  br (decide (find1.1 < (0 : Int)))
  (some ((5 : Int), m.B))
  (ob (ix m.B find1.1) fun row1 =>
  chk (decide (0 ≤ find1.2 ∧ find1.2 ≤ (len row1) ∧ (len row1) ≤ len row1)) <|
  some ((0 : Int), m.B.set (Int.toNat find1.1) (copyAt row1 find1.2 (len row1) b))))

def kit_SameRegionsL1B (ap0 : List Region) (b : List Region) (L1 : Int → Option Bool) (i1 : Int) : Option Bool :=
  br (decide (i1 < (len ap0)))
  (ob (ix ap0 i1) fun r1 =>
  ob (ix b i1) fun r2 =>
  br (r1 != r2)
  (some false)
  (L1 (wi (i1 + (1 : Int)))))
  (some true)

def kit_SameRegionsL1 (ap0 : List Region) (b : List Region) : Nat → Int → Option Bool
  | 0, _ => none
  | nf + 1, i1 => kit_SameRegionsL1B ap0 b (kit_SameRegionsL1 ap0 b nf) i1

/-- dumbwaiterkit.SameRegions -/
def kit_SameRegions (ap0 : List Region) (b : List Region) : Option Bool :=
  br ((len ap0) != (len b))
  (some false)
  (kit_SameRegionsL1 ap0 b fuel (0 : Int))

def ref_Mem_Load02L1B (m : dumbwaiterref02_Mem) (find1 : (Int × Int)) (L1 : UInt64 → Int → Option (UInt64 × Int)) (v1 : UInt64) (n1 : Int) : Option (UInt64 × Int) :=
  br (decide (n1 ≥ (0 : Int)))
  (ob (ix m.B find1.1) fun row1 =>
  ob (ix row1 (wi (find1.2 + n1))) fun y1 =>
  L1 (((256 : UInt64) * v1) + y1.toUInt64) (wi (n1 - (1 : Int))))
  (some (v1, (0 : Int)))

def ref_Mem_Load02L1 (m : dumbwaiterref02_Mem) (find1 : (Int × Int)) : Nat → UInt64 → Int → Option (UInt64 × Int)
  | 0, _, _ => none
  | nf + 1, v1, n1 => ref_Mem_Load02L1B m find1 (ref_Mem_Load02L1 m find1 nf) v1 n1

def ref_Mem_Load02L2B (m : dumbwaiterref02_Mem) (find2 : (Int × Int)) (L2 : UInt64 → Int → Option (UInt64 × Int)) (v2 : UInt64) (n2 : Int) : Option (UInt64 × Int) :=
  br (decide (n2 ≥ (0 : Int)))
  (ob (ix m.B find2.1) fun row2 =>
  ob (ix row2 (wi (find2.2 + n2))) fun y2 =>
  L2 (((256 : UInt64) * v2) + y2.toUInt64) (wi (n2 - (1 : Int))))
  (some (v2, (0 : Int)))

def ref_Mem_Load02L2 (m : dumbwaiterref02_Mem) (find2 : (Int × Int)) : Nat → UInt64 → Int → Option (UInt64 × Int)
  | 0, _, _ => none
  | nf + 1, v2, n2 => ref_Mem_Load02L2B m find2 (ref_Mem_Load02L2 m find2 nf) v2 n2

def ref_Mem_Load02L3B (m : dumbwaiterref02_Mem) (find3 : (Int × Int)) (L3 : UInt64 → Int → Option (UInt64 × Int)) (v3 : UInt64) (n3 : Int) : Option (UInt64 × Int) :=
  br (decide (n3 ≥ (0 : Int)))
  (ob (ix m.B find3.1) fun row3 =>
  ob (ix row3 (wi (find3.2 + n3))) fun y3 =>
  L3 (((256 : UInt64) * v3) + y3.toUInt64) (wi (n3 - (1 : Int))))
  (some (v3, (0 : Int)))

def ref_Mem_Load02L3 (m : dumbwaiterref02_Mem) (find3 : (Int × Int)) : Nat → UInt64 → Int → Option (UInt64 × Int)
  | 0, _, _ => none
  | nf + 1, v3, n3 => ref_Mem_Load02L3B m find3 (ref_Mem_Load02L3 m find3 nf) v3 n3

def ref_Mem_Load02L4B (m : dumbwaiterref02_Mem) (find4 : (Int × Int)) (L4 : UInt64 → Int → Option (UInt64 × Int)) (v4 : UInt64) (n4 : Int) : Option (UInt64 × Int) :=
  br (decide (n4 ≥ (0 : Int)))
  (ob (ix m.B find4.1) fun row4 =>
  ob (ix row4 (wi (find4.2 + n4))) fun y4 =>
  L4 (((256 : UInt64) * v4) + y4.toUInt64) (wi (n4 - (1 : Int))))
  (some (v4, (0 : Int)))

def ref_Mem_Load02L4 (m : dumbwaiterref02_Mem) (find4 : (Int × Int)) : Nat → UInt64 → Int → Option (UInt64 × Int)
  | 0, _, _ => none
  | nf + 1, v4, n4 => ref_Mem_Load02L4B m find4 (ref_Mem_Load02L4 m find4 nf) v4 n4

/-- (*dumbwaiterref02.Mem).Load -/
def ref_Mem_Load02 (m : dumbwaiterref02_Mem) (atp1 : UInt64) (bytes : Int) : Option (UInt64 × Int) :=
  br (bytes != (1 : Int))
  (br (bytes != (2 : Int))
  (br (bytes != (4 : Int))
  (br (bytes != (8 : Int))
  (some ((0 : UInt64), (2 : Int)))
  (ob (ref_Mem_find02 m atp1 (u64 bytes)) fun find1 =>
  br (decide (find1.1 < (0 : Int)))
  (some ((0 : UInt64), (5 : Int)))
  (ref_Mem_Load02L1 m find1 fuel (0 : UInt64) (wi (bytes - (1 : Int))))))
  (ob (ref_Mem_find02 m atp1 (u64 bytes)) fun find2 =>
  br (decide (find2.1 < (0 : Int)))
  (some ((0 : UInt64), (5 : Int)))
  (ref_Mem_Load02L2 m find2 fuel (0 : UInt64) (wi (bytes - (1 : Int))))))
  (ob (ref_Mem_find02 m atp1 (u64 bytes)) fun find3 =>
  br (decide (find3.1 < (0 : Int)))
  (some ((0 : UInt64), (5 : Int)))
  (ref_Mem_Load02L3 m find3 fuel (0 : UInt64) (wi (bytes - (1 : Int))))))
  (ob (ref_Mem_find02 m atp1 (u64 bytes)) fun find4 =>
  br (decide (find4.1 < (0 : Int)))
  (some ((0 : UInt64), (5 : Int)))
  (ref_Mem_Load02L4 m find4 fuel (0 : UInt64) (wi (bytes - (1 : Int)))))

/-- (*gmem.Mem).made -/
def gmem_Mem_maden0  : Option Bool :=
  some false

/-- (*gmem.Mem).Load -/
def gmem_Mem_Loadn0 (atp1 : UInt64) (bytes : Int) : Option (UInt64 × Int) :=
  ob (gmem_Mem_maden0) fun made1 =>
  some ((0 : UInt64), (1 : Int))

def ref_Mem_find02n0L1B  (L1 : Int → Option (Int × Int)) (i1 : Int) : Option (Int × Int) :=
  none

def ref_Mem_find02n0L1  : Nat → Int → Option (Int × Int)
  | 0, _ => none
  | nf + 1, i1 => ref_Mem_find02n0L1B (ref_Mem_find02n0L1 nf) i1

/-- (*dumbwaiterref02.Mem).find -/
def ref_Mem_find02n0 (atp1 : UInt64) (np2 : UInt64) : Option (Int × Int) :=
  ref_Mem_find02n0L1 fuel (0 : Int)

def ref_Mem_Load02n0L1B  (L1 : UInt64 → Int → Option (UInt64 × Int)) (v1 : UInt64) (n1 : Int) : Option (UInt64 × Int) :=
  chk (!(decide (n1 ≥ (0 : Int)))) <|
  some (v1, (0 : Int))

def ref_Mem_Load02n0L1  : Nat → UInt64 → Int → Option (UInt64 × Int)
  | 0, _, _ => none
  | nf + 1, v1, n1 => ref_Mem_Load02n0L1B (ref_Mem_Load02n0L1 nf) v1 n1

def ref_Mem_Load02n0L2B  (L2 : UInt64 → Int → Option (UInt64 × Int)) (v2 : UInt64) (n2 : Int) : Option (UInt64 × Int) :=
  chk (!(decide (n2 ≥ (0 : Int)))) <|
  some (v2, (0 : Int))

def ref_Mem_Load02n0L2  : Nat → UInt64 → Int → Option (UInt64 × Int)
  | 0, _, _ => none
  | nf + 1, v2, n2 => ref_Mem_Load02n0L2B (ref_Mem_Load02n0L2 nf) v2 n2

def ref_Mem_Load02n0L3B  (L3 : UInt64 → Int → Option (UInt64 × Int)) (v3 : UInt64) (n3 : Int) : Option (UInt64 × Int) :=
  chk (!(decide (n3 ≥ (0 : Int)))) <|
  some (v3, (0 : Int))

def ref_Mem_Load02n0L3  : Nat → UInt64 → Int → Option (UInt64 × Int)
  | 0, _, _ => none
  | nf + 1, v3, n3 => ref_Mem_Load02n0L3B (ref_Mem_Load02n0L3 nf) v3 n3

def ref_Mem_Load02n0L4B  (L4 : UInt64 → Int → Option (UInt64 × Int)) (v4 : UInt64) (n4 : Int) : Option (UInt64 × Int) :=
  chk (!(decide (n4 ≥ (0 : Int)))) <|
  some (v4, (0 : Int))

def ref_Mem_Load02n0L4  : Nat → UInt64 → Int → Option (UInt64 × Int)
  | 0, _, _ => none
  | nf + 1, v4, n4 => ref_Mem_Load02n0L4B (ref_Mem_Load02n0L4 nf) v4 n4

/-- (*dumbwaiterref02.Mem).Load -/
def ref_Mem_Load02n0 (atp1 : UInt64) (bytes : Int) : Option (UInt64 × Int) :=
  br (bytes != (1 : Int))
  (br (bytes != (2 : Int))
  (br (bytes != (4 : Int))
  (br (bytes != (8 : Int))
  (some ((0 : UInt64), (2 : Int)))
  (ob (ref_Mem_find02n0 atp1 (u64 bytes)) fun find1 =>
  br (decide (find1.1 < (0 : Int)))
  (some ((0 : UInt64), (5 : Int)))
  (ref_Mem_Load02n0L1 fuel (0 : UInt64) (wi (bytes - (1 : Int))))))
  (ob (ref_Mem_find02n0 atp1 (u64 bytes)) fun find2 =>
  br (decide (find2.1 < (0 : Int)))
  (some ((0 : UInt64), (5 : Int)))
  (ref_Mem_Load02n0L2 fuel (0 : UInt64) (wi (bytes - (1 : Int))))))
  (ob (ref_Mem_find02n0 atp1 (u64 bytes)) fun find3 =>
  br (decide (find3.1 < (0 : Int)))
  (some ((0 : UInt64), (5 : Int)))
  (ref_Mem_Load02n0L3 fuel (0 : UInt64) (wi (bytes - (1 : Int))))))
  (ob (ref_Mem_find02n0 atp1 (u64 bytes)) fun find4 =>
  br (decide (find4.1 < (0 : Int)))
  (some ((0 : UInt64), (5 : Int)))
  (ref_Mem_Load02n0L4 fuel (0 : UInt64) (wi (bytes - (1 : Int)))))

/-- (*gmem.Mem).Store -/
def gmem_Mem_Storen0 (atp1 : UInt64) (bytes : Int) (vp3 : UInt64) : Option Int :=
  ob (gmem_Mem_maden0) fun made1 =>
  some (1 : Int)

def ref_Mem_Store02n0L1B (bytes : Int) (L1 : Int → Option Int) (n1 : Int) : Option Int :=
  chk (!(decide (n1 < bytes))) <|
  some (0 : Int)

def ref_Mem_Store02n0L1 (bytes : Int) : Nat → Int → Option Int
  | 0, _ => none
  | nf + 1, n1 => ref_Mem_Store02n0L1B bytes (ref_Mem_Store02n0L1 bytes nf) n1

def ref_Mem_Store02n0L2B (bytes : Int) (L2 : Int → Option Int) (n2 : Int) : Option Int :=
  chk (!(decide (n2 < bytes))) <|
  some (0 : Int)

def ref_Mem_Store02n0L2 (bytes : Int) : Nat → Int → Option Int
  | 0, _ => none
  | nf + 1, n2 => ref_Mem_Store02n0L2B bytes (ref_Mem_Store02n0L2 bytes nf) n2

def ref_Mem_Store02n0L3B (bytes : Int) (L3 : Int → Option Int) (n3 : Int) : Option Int :=
  chk (!(decide (n3 < bytes))) <|
  some (0 : Int)

def ref_Mem_Store02n0L3 (bytes : Int) : Nat → Int → Option Int
  | 0, _ => none
  | nf + 1, n3 => ref_Mem_Store02n0L3B bytes (ref_Mem_Store02n0L3 bytes nf) n3

def ref_Mem_Store02n0L4B (bytes : Int) (L4 : Int → Option Int) (n4 : Int) : Option Int :=
  chk (!(decide (n4 < bytes))) <|
  some (0 : Int)

def ref_Mem_Store02n0L4 (bytes : Int) : Nat → Int → Option Int
  | 0, _ => none
  | nf + 1, n4 => ref_Mem_Store02n0L4B bytes (ref_Mem_Store02n0L4 bytes nf) n4

/-- (*dumbwaiterref02.Mem).Store -/
def ref_Mem_Store02n0 (atp1 : UInt64) (bytes : Int) (vp3 : UInt64) : Option Int :=
  br (bytes != (1 : Int))
  (br (bytes != (2 : Int))
  (br (bytes != (4 : Int))
  (br (bytes != (8 : Int))
  (some (2 : Int))
  (ob (ref_Mem_find02n0 atp1 (u64 bytes)) fun find1 =>
  br (decide (find1.1 < (0 : Int)))
  (some (5 : Int))
  (ref_Mem_Store02n0L1 bytes fuel (0 : Int))))
  (ob (ref_Mem_find02n0 atp1 (u64 bytes)) fun find2 =>
  br (decide (find2.1 < (0 : Int)))
  (some (5 : Int))
  (ref_Mem_Store02n0L2 bytes fuel (0 : Int))))
  (ob (ref_Mem_find02n0 atp1 (u64 bytes)) fun find3 =>
  br (decide (find3.1 < (0 : Int)))
  (some (5 : Int))
  (ref_Mem_Store02n0L3 bytes fuel (0 : Int))))
  (ob (ref_Mem_find02n0 atp1 (u64 bytes)) fun find4 =>
  br (decide (find4.1 < (0 : Int)))
  (some (5 : Int))
  (ref_Mem_Store02n0L4 bytes fuel (0 : Int)))

/-- (*gmem.Mem).Read -/
def gmem_Mem_Readn0 (atp1 : UInt64) (np2 : Int) : Option ((List UInt8) × Int) :=
  ob (gmem_Mem_maden0) fun made1 =>
  some (([] : List UInt8), (1 : Int))

/-- (*dumbwaiterref02.Mem).Read -/
def ref_Mem_Read02n0 (atp1 : UInt64) (np2 : Int) : Option ((List UInt8) × Int) :=
  br (decide (np2 < (0 : Int)))
  (some (([] : List UInt8), (2 : Int)))
  (br (np2 == (0 : Int))
  (some (([] : List UInt8), (0 : Int)))
  (ob (ref_Mem_find02n0 atp1 (u64 np2)) fun find1 =>
  chk (decide (find1.1 < (0 : Int))) <|
  some (([] : List UInt8), (5 : Int))))

/-- (*gmem.Mem).Write -/
def gmem_Mem_Writen0 (atp1 : UInt64) (arg2 : List UInt8) : Option Int :=
  ob (gmem_Mem_maden0) fun made1 =>
  some (1 : Int)

/-- (*dumbwaiterref02.Mem).Write -/
def ref_Mem_Write02n0 (atp1 : UInt64) (b : List UInt8) : Option Int :=
  br ((len b) == (0 : Int))
  (some (0 : Int))
  (ob (ref_Mem_find02n0 atp1 (u64 (len b))) fun find1 =>
  chk (decide (find1.1 < (0 : Int))) <|
  some (5 : Int))

/-- (*gmem.Mem).Has -/
def gmem_Mem_Hasn0 (atp1 : UInt64) (np2 : UInt64) : Option Bool :=
  ob (gmem_Mem_maden0) fun made1 =>
  some false

/-- (*dumbwaiterref02.Mem).Has -/
def ref_Mem_Has02n0 (atp1 : UInt64) (np2 : UInt64) : Option Bool :=
  ob (ref_Mem_find02n0 atp1 np2) fun find1 =>
  some (decide (find1.1 ≥ (0 : Int)))

/-- (*gmem.Mem).Image -/
def gmem_Mem_Imagen0  : Option (List UInt8) :=
  ob (gmem_Mem_maden0) fun made1 =>
  some ([] : List UInt8)

def ref_Mem_Image02n0L1B  (L1 : (List UInt8) → Int → Option (List UInt8)) (out1 : List UInt8) (i1 : Int) : Option (List UInt8) :=
  none

def ref_Mem_Image02n0L1  : Nat → (List UInt8) → Int → Option (List UInt8)
  | 0, _, _ => none
  | nf + 1, out1, i1 => ref_Mem_Image02n0L1B (ref_Mem_Image02n0L1 nf) out1 i1

/-- (*dumbwaiterref02.Mem).Image -/
def ref_Mem_Image02n0  : Option (List UInt8) :=
  ref_Mem_Image02n0L1 fuel [] (0 : Int)

/-- (*gmem.Mem).Regions -/
def gmem_Mem_Regionsn0  : Option (List Region) :=
  ob (gmem_Mem_maden0) fun made1 =>
  some ([] : List Region)

def ref_Mem_Store02L1B (bytes : Int) (vp3 : UInt64) (find1 : (Int × Int)) (L1 : (List (List UInt8)) → Int → Option (Int × (List (List UInt8)))) (rows1 : List (List UInt8)) (n1 : Int) : Option (Int × (List (List UInt8))) :=
  br (decide (n1 < bytes))
  (ob (ix rows1 find1.1) fun row1 =>
  ob (ix row1 (wi (find1.2 + n1))) fun y1 =>
  L1 (rows1.set (Int.toNat find1.1) (row1.set (wi (find1.2 + n1)).toNat ((shr64 vp3 ((u64 (wi ((8 : Int) * n1))).toNat)).toUInt8))) (wi (n1 + (1 : Int))))
  (some ((0 : Int), rows1))

def ref_Mem_Store02L1 (bytes : Int) (vp3 : UInt64) (find1 : (Int × Int)) : Nat → (List (List UInt8)) → Int → Option (Int × (List (List UInt8)))
  | 0, _, _ => none
  | nf + 1, rows1, n1 => ref_Mem_Store02L1B bytes vp3 find1 (ref_Mem_Store02L1 bytes vp3 find1 nf) rows1 n1

def ref_Mem_Store02L2B (bytes : Int) (vp3 : UInt64) (find2 : (Int × Int)) (L2 : (List (List UInt8)) → Int → Option (Int × (List (List UInt8)))) (rows2 : List (List UInt8)) (n2 : Int) : Option (Int × (List (List UInt8))) :=
  br (decide (n2 < bytes))
  (ob (ix rows2 find2.1) fun row2 =>
  ob (ix row2 (wi (find2.2 + n2))) fun y2 =>
  L2 (rows2.set (Int.toNat find2.1) (row2.set (wi (find2.2 + n2)).toNat ((shr64 vp3 ((u64 (wi ((8 : Int) * n2))).toNat)).toUInt8))) (wi (n2 + (1 : Int))))
  (some ((0 : Int), rows2))

def ref_Mem_Store02L2 (bytes : Int) (vp3 : UInt64) (find2 : (Int × Int)) : Nat → (List (List UInt8)) → Int → Option (Int × (List (List UInt8)))
  | 0, _, _ => none
  | nf + 1, rows2, n2 => ref_Mem_Store02L2B bytes vp3 find2 (ref_Mem_Store02L2 bytes vp3 find2 nf) rows2 n2

def ref_Mem_Store02L3B (bytes : Int) (vp3 : UInt64) (find3 : (Int × Int)) (L3 : (List (List UInt8)) → Int → Option (Int × (List (List UInt8)))) (rows3 : List (List UInt8)) (n3 : Int) : Option (Int × (List (List UInt8))) :=
  br (decide (n3 < bytes))
  (ob (ix rows3 find3.1) fun row3 =>
  ob (ix row3 (wi (find3.2 + n3))) fun y3 =>
  L3 (rows3.set (Int.toNat find3.1) (row3.set (wi (find3.2 + n3)).toNat ((shr64 vp3 ((u64 (wi ((8 : Int) * n3))).toNat)).toUInt8))) (wi (n3 + (1 : Int))))
  (some ((0 : Int), rows3))

def ref_Mem_Store02L3 (bytes : Int) (vp3 : UInt64) (find3 : (Int × Int)) : Nat → (List (List UInt8)) → Int → Option (Int × (List (List UInt8)))
  | 0, _, _ => none
  | nf + 1, rows3, n3 => ref_Mem_Store02L3B bytes vp3 find3 (ref_Mem_Store02L3 bytes vp3 find3 nf) rows3 n3

def ref_Mem_Store02L4B (bytes : Int) (vp3 : UInt64) (find4 : (Int × Int)) (L4 : (List (List UInt8)) → Int → Option (Int × (List (List UInt8)))) (rows4 : List (List UInt8)) (n4 : Int) : Option (Int × (List (List UInt8))) :=
  br (decide (n4 < bytes))
  (ob (ix rows4 find4.1) fun row4 =>
  ob (ix row4 (wi (find4.2 + n4))) fun y4 =>
  L4 (rows4.set (Int.toNat find4.1) (row4.set (wi (find4.2 + n4)).toNat ((shr64 vp3 ((u64 (wi ((8 : Int) * n4))).toNat)).toUInt8))) (wi (n4 + (1 : Int))))
  (some ((0 : Int), rows4))

def ref_Mem_Store02L4 (bytes : Int) (vp3 : UInt64) (find4 : (Int × Int)) : Nat → (List (List UInt8)) → Int → Option (Int × (List (List UInt8)))
  | 0, _, _ => none
  | nf + 1, rows4, n4 => ref_Mem_Store02L4B bytes vp3 find4 (ref_Mem_Store02L4 bytes vp3 find4 nf) rows4 n4

/-- (*dumbwaiterref02.Mem).Store -/
def ref_Mem_Store02 (m : dumbwaiterref02_Mem) (atp1 : UInt64) (bytes : Int) (vp3 : UInt64) : Option (Int × (List (List UInt8))) :=
  br (bytes != (1 : Int))
  (br (bytes != (2 : Int))
  (br (bytes != (4 : Int))
  (br (bytes != (8 : Int))
  (some ((2 : Int), m.B))
  (ob (ref_Mem_find02 m atp1 (u64 bytes)) fun find1 =>
  br (decide (find1.1 < (0 : Int)))
  (some ((5 : Int), m.B))
  (ref_Mem_Store02L1 bytes vp3 find1 fuel m.B (0 : Int))))
  (ob (ref_Mem_find02 m atp1 (u64 bytes)) fun find2 =>
  br (decide (find2.1 < (0 : Int)))
  (some ((5 : Int), m.B))
  (ref_Mem_Store02L2 bytes vp3 find2 fuel m.B (0 : Int))))
  (ob (ref_Mem_find02 m atp1 (u64 bytes)) fun find3 =>
  br (decide (find3.1 < (0 : Int)))
  (some ((5 : Int), m.B))
  (ref_Mem_Store02L3 bytes vp3 find3 fuel m.B (0 : Int))))
  (ob (ref_Mem_find02 m atp1 (u64 bytes)) fun find4 =>
  br (decide (find4.1 < (0 : Int)))
  (some ((5 : Int), m.B))
  (ref_Mem_Store02L4 bytes vp3 find4 fuel m.B (0 : Int)))

/-- (*dumbwaiterref02.Mem).Read -/
def ref_Mem_Read02 (m : dumbwaiterref02_Mem) (atp1 : UInt64) (np2 : Int) : Option ((List UInt8) × Int) :=
  br (decide (np2 < (0 : Int)))
  (some (([] : List UInt8), (2 : Int)))
  (br (np2 == (0 : Int))
  (some (([] : List UInt8), (0 : Int)))
  (ob (ref_Mem_find02 m atp1 (u64 np2)) fun find1 =>
  br (decide (find1.1 < (0 : Int)))
  (some (([] : List UInt8), (5 : Int)))
  (ob (ix m.B find1.1) fun row1 =>
  chk (decide (0 ≤ find1.2 ∧ find1.2 ≤ (wi (find1.2 + np2)) ∧ (wi (find1.2 + np2)) ≤ len row1)) <|
  chk (fits ([] : List UInt8).length (sub row1 find1.2 (wi (find1.2 + np2))).length 1) <|
  some (sub row1 find1.2 (wi (find1.2 + np2)), (0 : Int)))))

/-- (*dumbwaiterref02.Mem).Has -/
def ref_Mem_Has02 (m : dumbwaiterref02_Mem) (atp1 : UInt64) (np2 : UInt64) : Option Bool :=
  ob (ref_Mem_find02 m atp1 np2) fun find1 =>
  some (decide (find1.1 ≥ (0 : Int)))

def ref_Mem_Image02L1B (m : dumbwaiterref02_Mem) (L1 : (List UInt8) → Int → Option (List UInt8)) (out1 : List UInt8) (i1 : Int) : Option (List UInt8) :=
  br (decide (i1 < (len m.B)))
  (ob (ix m.B i1) fun row1 =>
  chk (fits out1.length row1.length 1) <|
  L1 (out1 ++ row1) (wi (i1 + (1 : Int))))
  (some out1)

def ref_Mem_Image02L1 (m : dumbwaiterref02_Mem) : Nat → (List UInt8) → Int → Option (List UInt8)
  | 0, _, _ => none
  | nf + 1, out1, i1 => ref_Mem_Image02L1B m (ref_Mem_Image02L1 m nf) out1 i1

/-- (*dumbwaiterref02.Mem).Image -/
def ref_Mem_Image02 (m : dumbwaiterref02_Mem) : Option (List UInt8) :=
  ref_Mem_Image02L1 m fuel [] (0 : Int)

/-- (*gmem.Mem).Regions -/
def gmem_Mem_Regions (m : gmem_Mem) : Option (List Region) :=
  ob (gmem_Mem_made m) fun made1 =>
  ob (slices_Clone_apiRegionapiRegion m.l) fun region1 =>
  some region1

def law02zGmemScriptJ2 (i1 : Int) (L1 : Int → Int → Int → Option Bool) (e2 : Int) (f2 : Int) (x1 : UInt64) (y1 : UInt64) (is1 : Bool) (also1 : Bool) (p2 : List UInt8) (q1 : List UInt8) : Option Bool :=
  chk (!(x1 != y1)) <|
  chk (!(e2 != f2)) <|
  chk (!(p2 != q1)) <|
  chk (!(is1 != also1)) <|
  L1 e2 f2 (wi (i1 + (1 : Int)))

def law02zGmemScriptJ3 (i1 : Int) (L1 : Int → Int → Int → Option Bool) (e3 : Int) (f3 : Int) (x2 : UInt64) (y2 : UInt64) (is2 : Bool) (also2 : Bool) (p3 : List UInt8) (q2 : List UInt8) : Option Bool :=
  law02zGmemScriptJ2 i1 L1 e3 f3 x2 y2 is2 also2 p3 q2

def law02zGmemScriptL1B (l : List Region) (calls : List dumbwaiterlaw02_Act) (L1 : Int → Int → Int → Option Bool) (e1 : Int) (f1 : Int) (i1 : Int) : Option Bool :=
  br (decide (i1 < (len calls)))
  (ob (ix calls i1) fun d1 =>
  ob (kit_Pick d1.Kind (5 : Int)) fun pick1 =>
  br (pick1 == (0 : Int))
  (ob (gmem_Mem_Loadn0 d1.At d1.N) fun load1 =>
  ob (ref_Mem_Load02n0 d1.At d1.N) fun load2 =>
  law02zGmemScriptJ3 i1 L1 load1.2 load2.2 load1.1 load2.1 false false ([] : List UInt8) ([] : List UInt8))
  (br (pick1 == (1 : Int))
  (ob (gmem_Mem_Storen0 d1.At d1.N d1.V) fun store1 =>
  ob (ref_Mem_Store02n0 d1.At d1.N d1.V) fun store2 =>
  law02zGmemScriptJ3 i1 L1 store1 store2 (0 : UInt64) (0 : UInt64) false false ([] : List UInt8) ([] : List UInt8))
  (br (pick1 == (2 : Int))
  (ob (gmem_Mem_Readn0 d1.At (mini d1.N (5000 : Int))) fun read1 =>
  ob (ref_Mem_Read02n0 d1.At (mini d1.N (5000 : Int))) fun read2 =>
  law02zGmemScriptJ3 i1 L1 read1.2 read2.2 (0 : UInt64) (0 : UInt64) false false read1.1 read2.1)
  (br (pick1 == (3 : Int))
  (ob (kit_Own d1.B) fun own1 =>
  ob (gmem_Mem_Writen0 d1.At own1) fun write1 =>
  ob (ref_Mem_Write02n0 d1.At d1.B) fun write2 =>
  law02zGmemScriptJ3 i1 L1 write1 write2 (0 : UInt64) (0 : UInt64) false false ([] : List UInt8) ([] : List UInt8))
  (ob (gmem_Mem_Hasn0 d1.At d1.V) fun has1 =>
  ob (ref_Mem_Has02n0 d1.At d1.V) fun has2 =>
  law02zGmemScriptJ3 i1 L1 e1 f1 (0 : UInt64) (0 : UInt64) has1 has2 ([] : List UInt8) ([] : List UInt8))))))
  (ob (gmem_Mem_Imagen0) fun image1 =>
  ob (ref_Mem_Image02n0) fun image2 =>
  chk (image1 == image2) <|
  ob (gmem_Mem_Regionsn0) fun region2 =>
  ob (kit_SameRegions region2 l) fun samere1 =>
  chk (samere1) <|
  some true)

def law02zGmemScriptL1 (l : List Region) (calls : List dumbwaiterlaw02_Act) : Nat → Int → Int → Int → Option Bool
  | 0, _, _, _ => none
  | nf + 1, e1, f1, i1 => law02zGmemScriptL1B l calls (law02zGmemScriptL1 l calls nf) e1 f1 i1

def law02zGmemScriptJ5 (i2 : Int) (L4 : Int → (List (List UInt8)) → Int → Int → Option Bool) (e5 : Int) (rows2 : List (List UInt8)) (f5 : Int) (x3 : UInt64) (y3 : UInt64) (is3 : Bool) (also3 : Bool) (p5 : List UInt8) (q3 : List UInt8) : Option Bool :=
  chk (!(x3 != y3)) <|
  chk (!(e5 != f5)) <|
  chk (!(p5 != q3)) <|
  chk (!(is3 != also3)) <|
  L4 e5 rows2 f5 (wi (i2 + (1 : Int)))

def law02zGmemScriptJ6 (i2 : Int) (L4 : Int → (List (List UInt8)) → Int → Int → Option Bool) (e6 : Int) (rows3 : List (List UInt8)) (f6 : Int) (x4 : UInt64) (y4 : UInt64) (is4 : Bool) (also4 : Bool) (p6 : List UInt8) (q4 : List UInt8) : Option Bool :=
  law02zGmemScriptJ5 i2 L4 e6 rows3 f6 x4 y4 is4 also4 p6 q4

def law02zGmemScriptL4B (l : List Region) (calls : List dumbwaiterlaw02_Act) (mem1 : dumbwaiterref02_Mem) (L4 : Int → (List (List UInt8)) → Int → Int → Option Bool) (e4 : Int) (rows1 : List (List UInt8)) (f4 : Int) (i2 : Int) : Option Bool :=
  br (decide (i2 < (len calls)))
  (ob (ix calls i2) fun d2 =>
  ob (kit_Pick d2.Kind (5 : Int)) fun pick2 =>
  br (pick2 == (0 : Int))
  (ob (gmem_Mem_Loadn0 d2.At d2.N) fun load3 =>
  ob (ref_Mem_Load02 (dumbwaiterref02_Mem.mk mem1.L rows1) d2.At d2.N) fun load4 =>
  law02zGmemScriptJ6 i2 L4 load3.2 rows1 load4.2 load3.1 load4.1 false false ([] : List UInt8) ([] : List UInt8))
  (br (pick2 == (1 : Int))
  (ob (gmem_Mem_Storen0 d2.At d2.N d2.V) fun store3 =>
  ob (ref_Mem_Store02 (dumbwaiterref02_Mem.mk mem1.L rows1) d2.At d2.N d2.V) fun store4 =>
  law02zGmemScriptJ6 i2 L4 store3 store4.2 store4.1 (0 : UInt64) (0 : UInt64) false false ([] : List UInt8) ([] : List UInt8))
  (br (pick2 == (2 : Int))
  (ob (gmem_Mem_Readn0 d2.At (mini d2.N (5000 : Int))) fun read3 =>
  ob (ref_Mem_Read02 (dumbwaiterref02_Mem.mk mem1.L rows1) d2.At (mini d2.N (5000 : Int))) fun read4 =>
  law02zGmemScriptJ6 i2 L4 read3.2 rows1 read4.2 (0 : UInt64) (0 : UInt64) false false read3.1 read4.1)
  (br (pick2 == (3 : Int))
  (ob (kit_Own d2.B) fun own2 =>
  ob (gmem_Mem_Writen0 d2.At own2) fun write3 =>
  ob (ref_Mem_Write02 (dumbwaiterref02_Mem.mk mem1.L rows1) d2.At d2.B) fun write4 =>
  law02zGmemScriptJ6 i2 L4 write3 write4.2 write4.1 (0 : UInt64) (0 : UInt64) false false ([] : List UInt8) ([] : List UInt8))
  (ob (gmem_Mem_Hasn0 d2.At d2.V) fun has3 =>
  ob (ref_Mem_Has02 (dumbwaiterref02_Mem.mk mem1.L rows1) d2.At d2.V) fun has4 =>
  law02zGmemScriptJ6 i2 L4 e4 rows1 f4 (0 : UInt64) (0 : UInt64) has3 has4 ([] : List UInt8) ([] : List UInt8))))))
  (ob (gmem_Mem_Imagen0) fun image3 =>
  ob (ref_Mem_Image02 (dumbwaiterref02_Mem.mk mem1.L rows1)) fun image4 =>
  chk (image3 == image4) <|
  ob (gmem_Mem_Regionsn0) fun region3 =>
  ob (kit_SameRegions region3 l) fun samere2 =>
  chk (samere2) <|
  some true)

def law02zGmemScriptL4 (l : List Region) (calls : List dumbwaiterlaw02_Act) (mem1 : dumbwaiterref02_Mem) : Nat → Int → (List (List UInt8)) → Int → Int → Option Bool
  | 0, _, _, _, _ => none
  | nf + 1, e4, rows1, f4, i2 => law02zGmemScriptL4B l calls mem1 (law02zGmemScriptL4 l calls mem1 nf) e4 rows1 f4 i2

def law02zGmemScriptJ8 (i3 : Int) (L7 : (List (List UInt8)) → Int → Int → Int → Option Bool) (rows5 : List (List UInt8)) (e8 : Int) (f8 : Int) (x5 : UInt64) (y5 : UInt64) (is5 : Bool) (also5 : Bool) (p8 : List UInt8) (q5 : List UInt8) : Option Bool :=
  chk (!(x5 != y5)) <|
  chk (!(e8 != f8)) <|
  chk (!(p8 != q5)) <|
  chk (!(is5 != also5)) <|
  L7 rows5 e8 f8 (wi (i3 + (1 : Int)))

def law02zGmemScriptJ9 (i3 : Int) (L7 : (List (List UInt8)) → Int → Int → Int → Option Bool) (rows6 : List (List UInt8)) (e9 : Int) (f9 : Int) (x6 : UInt64) (y6 : UInt64) (is6 : Bool) (also6 : Bool) (p9 : List UInt8) (q6 : List UInt8) : Option Bool :=
  law02zGmemScriptJ8 i3 L7 rows6 e9 f9 x6 y6 is6 also6 p9 q6

def law02zGmemScriptL7B (l : List Region) (calls : List dumbwaiterlaw02_Act) (mem2 : gmem_Mem) (L7 : (List (List UInt8)) → Int → Int → Int → Option Bool) (rows4 : List (List UInt8)) (e7 : Int) (f7 : Int) (i3 : Int) : Option Bool :=
  br (decide (i3 < (len calls)))
  (ob (ix calls i3) fun d3 =>
  ob (kit_Pick d3.Kind (5 : Int)) fun pick3 =>
  br (pick3 == (0 : Int))
  (ob (gmem_Mem_Load (gmem_Mem.mk mem2.l rows4) d3.At d3.N) fun load5 =>
  ob (ref_Mem_Load02n0 d3.At d3.N) fun load6 =>
  law02zGmemScriptJ9 i3 L7 rows4 load5.2 load6.2 load5.1 load6.1 false false ([] : List UInt8) ([] : List UInt8))
  (br (pick3 == (1 : Int))
  (ob (gmem_Mem_Store (gmem_Mem.mk mem2.l rows4) d3.At d3.N d3.V) fun store5 =>
  ob (ref_Mem_Store02n0 d3.At d3.N d3.V) fun store6 =>
  law02zGmemScriptJ9 i3 L7 store5.2 store5.1 store6 (0 : UInt64) (0 : UInt64) false false ([] : List UInt8) ([] : List UInt8))
  (br (pick3 == (2 : Int))
  (ob (gmem_Mem_Read (gmem_Mem.mk mem2.l rows4) d3.At (mini d3.N (5000 : Int))) fun read5 =>
  ob (ref_Mem_Read02n0 d3.At (mini d3.N (5000 : Int))) fun read6 =>
  law02zGmemScriptJ9 i3 L7 rows4 read5.2 read6.2 (0 : UInt64) (0 : UInt64) false false read5.1 read6.1)
  (br (pick3 == (3 : Int))
  (ob (kit_Own d3.B) fun own3 =>
  ob (gmem_Mem_Write (gmem_Mem.mk mem2.l rows4) d3.At own3) fun write5 =>
  ob (ref_Mem_Write02n0 d3.At d3.B) fun write6 =>
  law02zGmemScriptJ9 i3 L7 write5.2 write5.1 write6 (0 : UInt64) (0 : UInt64) false false ([] : List UInt8) ([] : List UInt8))
  (ob (gmem_Mem_Has (gmem_Mem.mk mem2.l rows4) d3.At d3.V) fun has5 =>
  ob (ref_Mem_Has02n0 d3.At d3.V) fun has6 =>
  law02zGmemScriptJ9 i3 L7 rows4 e7 f7 (0 : UInt64) (0 : UInt64) has5 has6 ([] : List UInt8) ([] : List UInt8))))))
  (ob (gmem_Mem_Image (gmem_Mem.mk mem2.l rows4)) fun image5 =>
  ob (ref_Mem_Image02n0) fun image6 =>
  chk (image5 == image6) <|
  ob (gmem_Mem_Regions (gmem_Mem.mk mem2.l rows4)) fun region4 =>
  ob (kit_SameRegions region4 l) fun samere3 =>
  chk (samere3) <|
  some true)

def law02zGmemScriptL7 (l : List Region) (calls : List dumbwaiterlaw02_Act) (mem2 : gmem_Mem) : Nat → (List (List UInt8)) → Int → Int → Int → Option Bool
  | 0, _, _, _, _ => none
  | nf + 1, rows4, e7, f7, i3 => law02zGmemScriptL7B l calls mem2 (law02zGmemScriptL7 l calls mem2 nf) rows4 e7 f7 i3

def law02zGmemScriptJ11 (i4 : Int) (L10 : (List (List UInt8)) → Int → (List (List UInt8)) → Int → Int → Option Bool) (rows9 : List (List UInt8)) (e11 : Int) (rows10 : List (List UInt8)) (f11 : Int) (x7 : UInt64) (y7 : UInt64) (is7 : Bool) (also7 : Bool) (p11 : List UInt8) (q7 : List UInt8) : Option Bool :=
  chk (!(x7 != y7)) <|
  chk (!(e11 != f11)) <|
  chk (!(p11 != q7)) <|
  chk (!(is7 != also7)) <|
  L10 rows9 e11 rows10 f11 (wi (i4 + (1 : Int)))

def law02zGmemScriptJ12 (i4 : Int) (L10 : (List (List UInt8)) → Int → (List (List UInt8)) → Int → Int → Option Bool) (rows11 : List (List UInt8)) (e12 : Int) (rows12 : List (List UInt8)) (f12 : Int) (x8 : UInt64) (y8 : UInt64) (is8 : Bool) (also8 : Bool) (p12 : List UInt8) (q8 : List UInt8) : Option Bool :=
  law02zGmemScriptJ11 i4 L10 rows11 e12 rows12 f12 x8 y8 is8 also8 p12 q8

def law02zGmemScriptL10B (l : List Region) (calls : List dumbwaiterlaw02_Act) (mem2 : gmem_Mem) (mem3 : dumbwaiterref02_Mem) (L10 : (List (List UInt8)) → Int → (List (List UInt8)) → Int → Int → Option Bool) (rows7 : List (List UInt8)) (e10 : Int) (rows8 : List (List UInt8)) (f10 : Int) (i4 : Int) : Option Bool :=
  br (decide (i4 < (len calls)))
  (ob (ix calls i4) fun d4 =>
  ob (kit_Pick d4.Kind (5 : Int)) fun pick4 =>
  br (pick4 == (0 : Int))
  (ob (gmem_Mem_Load (gmem_Mem.mk mem2.l rows7) d4.At d4.N) fun load7 =>
  ob (ref_Mem_Load02 (dumbwaiterref02_Mem.mk mem3.L rows8) d4.At d4.N) fun load8 =>
  law02zGmemScriptJ12 i4 L10 rows7 load7.2 rows8 load8.2 load7.1 load8.1 false false ([] : List UInt8) ([] : List UInt8))
  (br (pick4 == (1 : Int))
  (ob (gmem_Mem_Store (gmem_Mem.mk mem2.l rows7) d4.At d4.N d4.V) fun store7 =>
  ob (ref_Mem_Store02 (dumbwaiterref02_Mem.mk mem3.L rows8) d4.At d4.N d4.V) fun store8 =>
  law02zGmemScriptJ12 i4 L10 store7.2 store7.1 store8.2 store8.1 (0 : UInt64) (0 : UInt64) false false ([] : List UInt8) ([] : List UInt8))
  (br (pick4 == (2 : Int))
  (ob (gmem_Mem_Read (gmem_Mem.mk mem2.l rows7) d4.At (mini d4.N (5000 : Int))) fun read7 =>
  ob (ref_Mem_Read02 (dumbwaiterref02_Mem.mk mem3.L rows8) d4.At (mini d4.N (5000 : Int))) fun read8 =>
  law02zGmemScriptJ12 i4 L10 rows7 read7.2 rows8 read8.2 (0 : UInt64) (0 : UInt64) false false read7.1 read8.1)
  (br (pick4 == (3 : Int))
  (ob (kit_Own d4.B) fun own4 =>
  ob (gmem_Mem_Write (gmem_Mem.mk mem2.l rows7) d4.At own4) fun write7 =>
  ob (ref_Mem_Write02 (dumbwaiterref02_Mem.mk mem3.L rows8) d4.At d4.B) fun write8 =>
  law02zGmemScriptJ12 i4 L10 write7.2 write7.1 write8.2 write8.1 (0 : UInt64) (0 : UInt64) false false ([] : List UInt8) ([] : List UInt8))
  (ob (gmem_Mem_Has (gmem_Mem.mk mem2.l rows7) d4.At d4.V) fun has7 =>
  ob (ref_Mem_Has02 (dumbwaiterref02_Mem.mk mem3.L rows8) d4.At d4.V) fun has8 =>
  law02zGmemScriptJ12 i4 L10 rows7 e10 rows8 f10 (0 : UInt64) (0 : UInt64) has7 has8 ([] : List UInt8) ([] : List UInt8))))))
  (ob (gmem_Mem_Image (gmem_Mem.mk mem2.l rows7)) fun image7 =>
  ob (ref_Mem_Image02 (dumbwaiterref02_Mem.mk mem3.L rows8)) fun image8 =>
  chk (image7 == image8) <|
  ob (gmem_Mem_Regions (gmem_Mem.mk mem2.l rows7)) fun region5 =>
  ob (kit_SameRegions region5 l) fun samere4 =>
  chk (samere4) <|
  some true)

def law02zGmemScriptL10 (l : List Region) (calls : List dumbwaiterlaw02_Act) (mem2 : gmem_Mem) (mem3 : dumbwaiterref02_Mem) : Nat → (List (List UInt8)) → Int → (List (List UInt8)) → Int → Int → Option Bool
  | 0, _, _, _, _, _ => none
  | nf + 1, rows7, e10, rows8, f10, i4 => law02zGmemScriptL10B l calls mem2 mem3 (law02zGmemScriptL10 l calls mem2 mem3 nf) rows7 e10 rows8 f10 i4

/-- dumbwaiterlaw02.GmemScript -/
def law02zGmemScript (l : List Region) (calls : List dumbwaiterlaw02_Act) : Option Bool :=
  ob (law02zlives) fun lives1 =>
  chk (!((!lives1))) <|
  ob (kit_LightRegions l (20000 : UInt64)) fun lightr1 =>
  br ((!lightr1))
  (some true)
  (ob (law02zsmall calls) fun small1 =>
  br ((!small1))
  (some true)
  (ob (kit_Regions l) fun region1 =>
  ob (gmem_New region1) fun new1 =>
  onO new1.1
  (ob (ref_New02 l) fun new2 =>
  onO new2.1
  (br (new1.2 != new2.2)
  (chk (new1.2 == new2.2) <|
  ob (gmem_Check l) fun check1 =>
  chk (check1 == new2.2) <|
  some true)
  (ob (gmem_Check l) fun check2 =>
  br (check2 != new2.2)
  (chk (new1.2 == new2.2) <|
  ob (gmem_Check l) fun check3 =>
  chk (check3 == new2.2) <|
  some true)
  (br (new2.2 != (0 : Int))
  (chk (new1.2 == new2.2) <|
  ob (gmem_Check l) fun check4 =>
  chk (check4 == new2.2) <|
  some true)
  (law02zGmemScriptL1 l calls fuel new1.2 new2.2 (0 : Int)))))
  (fun mem1 =>
  br (new1.2 != new2.2)
  (chk (new1.2 == new2.2) <|
  ob (gmem_Check l) fun check5 =>
  chk (check5 == new2.2) <|
  some true)
  (ob (gmem_Check l) fun check6 =>
  br (check6 != new2.2)
  (chk (new1.2 == new2.2) <|
  ob (gmem_Check l) fun check7 =>
  chk (check7 == new2.2) <|
  some true)
  (br (new2.2 != (0 : Int))
  (chk (new1.2 == new2.2) <|
  ob (gmem_Check l) fun check8 =>
  chk (check8 == new2.2) <|
  some true)
  (law02zGmemScriptL4 l calls mem1 fuel new1.2 mem1.B new2.2 (0 : Int))))))
  (fun mem2 =>
  ob (ref_New02 l) fun new3 =>
  onO new3.1
  (br (new1.2 != new3.2)
  (chk (new1.2 == new3.2) <|
  ob (gmem_Check l) fun check9 =>
  chk (check9 == new3.2) <|
  some true)
  (ob (gmem_Check l) fun check10 =>
  br (check10 != new3.2)
  (chk (new1.2 == new3.2) <|
  ob (gmem_Check l) fun check11 =>
  chk (check11 == new3.2) <|
  some true)
  (br (new3.2 != (0 : Int))
  (chk (new1.2 == new3.2) <|
  ob (gmem_Check l) fun check12 =>
  chk (check12 == new3.2) <|
  some true)
  (law02zGmemScriptL7 l calls mem2 fuel mem2.b new1.2 new3.2 (0 : Int)))))
  (fun mem3 =>
  br (new1.2 != new3.2)
  (chk (new1.2 == new3.2) <|
  ob (gmem_Check l) fun check13 =>
  chk (check13 == new3.2) <|
  some true)
  (ob (gmem_Check l) fun check14 =>
  br (check14 != new3.2)
  (chk (new1.2 == new3.2) <|
  ob (gmem_Check l) fun check15 =>
  chk (check15 == new3.2) <|
  some true)
  (br (new3.2 != (0 : Int))
  (chk (new1.2 == new3.2) <|
  ob (gmem_Check l) fun check16 =>
  chk (check16 == new3.2) <|
  some true)
  (law02zGmemScriptL10 l calls mem2 mem3 fuel mem2.b new1.2 mem3.B new3.2 (0 : Int))))))))

end Go.Proofs.Ytecmlfmbmligeaa
