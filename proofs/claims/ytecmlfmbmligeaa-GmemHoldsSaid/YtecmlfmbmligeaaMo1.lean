/- What the functions reckon, as plain words. No statement of the seat is proved here; no condition. -/
import Derived.Test.YtecmlfmbmligeaaTy
namespace Go.Proofs.Ytecmlfmbmligeaa

def kit_LightRegionsL1B (l : List Region) (most : UInt64) (L1 : UInt64 → Int → Option Bool) (sum1 : UInt64) (i1 : Int) : Option Bool :=
  br (decide (i1 < (len l)))
  (ob (ix l i1) fun r1 =>
  L1 (sum1 + (minu64 r1.Len (1073741824 : UInt64))) (wi (i1 + (1 : Int))))
  (some (decide (sum1 ≤ most)))

def kit_LightRegionsL1 (l : List Region) (most : UInt64) : Nat → UInt64 → Int → Option Bool
  | 0, _, _ => none
  | nf + 1, sum1, i1 => kit_LightRegionsL1B l most (kit_LightRegionsL1 l most nf) sum1 i1

/-- dumbwaiterkit.LightRegions -/
def kit_LightRegions (l : List Region) (most : UInt64) : Option Bool :=
  br (decide ((len l) > (40 : Int)))
  (some false)
  (kit_LightRegionsL1 l most fuel (0 : UInt64) (0 : Int))

def law02zsmallL1B (l : List dumbwaiterlaw02_Act) (L1 : Int → Option Bool) (i1 : Int) : Option Bool :=
  br (decide (i1 < (len l)))
  (br (decide (i1 ≤ (80 : Int)))
  (ob (ix l i1) fun d1 =>
  br (decide ((len d1.B) > (2000 : Int)))
  (some false)
  (L1 (wi (i1 + (1 : Int)))))
  (some (decide ((len l) ≤ (80 : Int)))))
  (some (decide ((len l) ≤ (80 : Int))))

def law02zsmallL1 (l : List dumbwaiterlaw02_Act) : Nat → Int → Option Bool
  | 0, _ => none
  | nf + 1, i1 => law02zsmallL1B l (law02zsmallL1 l nf) i1

/-- dumbwaiterlaw02.small -/
def law02zsmall (l : List dumbwaiterlaw02_Act) : Option Bool :=
  law02zsmallL1 l fuel (0 : Int)

def gmem_CheckL1B (l : List Region) (L1 : UInt64 → Int → Option Int) (room1 : UInt64) (x1 : Int) : Option Int :=
  br (decide (x1 < (len l)))
  (ob (ix l x1) fun r1 =>
  br (decide (r1.Len < (1 : UInt64)))
  (some (2 : Int))
  (br (decide (r1.Len > room1))
  (some (2 : Int))
  (br (decide ((r1.Len - (1 : UInt64)) > ((18446744073709551615 : UInt64) - r1.At)))
  (some (2 : Int))
  (br (decide (x1 > (0 : Int)))
  (ob (ix l (wi (x1 - (1 : Int)))) fun r2 =>
  br (decide (r1.At ≤ r2.At))
  (some (2 : Int))
  (br (decide ((r1.At - r2.At) < r2.Len))
  (some (2 : Int))
  (L1 (room1 - r1.Len) (wi (x1 + (1 : Int))))))
  (L1 (room1 - r1.Len) (wi (x1 + (1 : Int))))))))
  (some (0 : Int))

def gmem_CheckL1 (l : List Region) : Nat → UInt64 → Int → Option Int
  | 0, _, _ => none
  | nf + 1, room1, x1 => gmem_CheckL1B l (gmem_CheckL1 l nf) room1 x1

/-- gmem.Check -/
def gmem_Check (l : List Region) : Option Int :=
  br (decide ((len l) > (16 : Int)))
  (some (2 : Int))
  (gmem_CheckL1 l fuel (1048576 : UInt64) (0 : Int))

/-- dumbwaiterkit.Regions -/
def kit_Regions (l : List Region) : Option (List Region) :=
  chk (fits ([] : List Region).length l.length 16) <|
  some l

/-- slices.Clone[[]api.Region,api.Region] -/
def slices_Clone_apiRegionapiRegion (sp0 : List Region) : Option (List Region) :=
  chk (fits ([] : List Region).length sp0.length 16) <|
  some sp0

def gmem_NewL1B (l : List Region) (region1 : (List Region)) (L1 : (List (List UInt8)) → Int → Option ((Option gmem_Mem) × Int)) (rows1 : List (List UInt8)) (x1 : Int) : Option ((Option gmem_Mem) × Int) :=
  br (decide (x1 < (len l)))
  (ob (ix l x1) fun r1 =>
  chk (decide (0 ≤ (r1.Len.toNat : Int) ∧ (r1.Len.toNat : Int) ≤ (r1.Len.toNat : Int) ∧ (1 : Int) * (r1.Len.toNat : Int) ≤ 140737488355328)) <|
  ob (ix rows1 x1) fun row1 =>
  L1 (rows1.set (Int.toNat x1) (List.replicate (Int.toNat (r1.Len.toNat : Int)) (0 : UInt8))) (wi (x1 + (1 : Int))))
  (some ((some (gmem_Mem.mk region1 rows1)), (0 : Int)))

def gmem_NewL1 (l : List Region) (region1 : (List Region)) : Nat → (List (List UInt8)) → Int → Option ((Option gmem_Mem) × Int)
  | 0, _, _ => none
  | nf + 1, rows1, x1 => gmem_NewL1B l region1 (gmem_NewL1 l region1 nf) rows1 x1

/-- gmem.New -/
def gmem_New (l : List Region) : Option ((Option gmem_Mem) × Int) :=
  ob (gmem_Check l) fun check1 =>
  br (check1 != (0 : Int))
  (some ((none : Option gmem_Mem), check1))
  (ob (slices_Clone_apiRegionapiRegion l) fun region1 =>
  chk (decide (0 ≤ (len l) ∧ (len l) ≤ (wi ((len l) + (1 : Int))) ∧ (24 : Int) * (wi ((len l) + (1 : Int))) ≤ 140737488355328)) <|
  gmem_NewL1 l region1 fuel (List.replicate (Int.toNat (len l)) [] : List (List UInt8)) (0 : Int))

/-- dumbwaiterkit.Own -/
def kit_Own (b : List UInt8) : Option (List UInt8) :=
  chk (fits ([] : List UInt8).length b.length 1) <|
  some b

/-- (*gmem.Mem).made -/
def gmem_Mem_made (m : gmem_Mem) : Option Bool :=
  some true

/-- (*gmem.Mem).bytes$1 -/
def gmem_Mem_bytes_1 (ip0 : Int) (arg1 : gmem_Mem) (arg2 : UInt64) : Option Bool :=
  ob (ix arg1.l ip0) fun r1 =>
  ob (ix arg1.l ip0) fun r2 =>
  some (decide (((r1.Len - (1 : UInt64)) + r2.At) ≥ arg2))

def sort_SearchFgmem_Mem_bytes_1L1B (fc0 : gmem_Mem) (fc1 : UInt64) (L1 : Int → Int → Option Int) (i1 : Int) (j1 : Int) : Option Int :=
  br (decide (i1 < j1))
  (ob (gmem_Mem_bytes_1 (i64 (shr64 (u64 (wi (i1 + j1))) ((1 : UInt64).toNat))) fc0 fc1) fun bytes1 =>
  br ((!bytes1))
  (L1 (wi ((i64 (shr64 (u64 (wi (i1 + j1))) ((1 : UInt64).toNat))) + (1 : Int))) j1)
  (L1 i1 (i64 (shr64 (u64 (wi (i1 + j1))) ((1 : UInt64).toNat)))))
  (some i1)

def sort_SearchFgmem_Mem_bytes_1L1 (fc0 : gmem_Mem) (fc1 : UInt64) : Nat → Int → Int → Option Int
  | 0, _, _ => none
  | nf + 1, i1, j1 => sort_SearchFgmem_Mem_bytes_1L1B fc0 fc1 (sort_SearchFgmem_Mem_bytes_1L1 fc0 fc1 nf) i1 j1

/-- sort.Search -/
def sort_SearchFgmem_Mem_bytes_1 (np0 : Int) (fc0 : gmem_Mem) (fc1 : UInt64) : Option Int :=
  sort_SearchFgmem_Mem_bytes_1L1 fc0 fc1 fuel (0 : Int) np0

/-- (*gmem.Mem).bytes -/
def gmem_Mem_bytes (m : gmem_Mem) (atp1 : UInt64) (np2 : UInt64) : Option (Option (Int × Int × Int)) :=
  br (decide (np2 < (1 : UInt64)))
  (some (none : Option (Int × Int × Int)))
  (ob (sort_SearchFgmem_Mem_bytes_1 (len m.l) m atp1) fun search1 =>
  br (search1 == (len m.l))
  (some (none : Option (Int × Int × Int)))
  (ob (ix m.l search1) fun r1 =>
  br (decide (atp1 < r1.At))
  (some (none : Option (Int × Int × Int)))
  (ob (ix m.l search1) fun r2 =>
  ob (ix m.l search1) fun r3 =>
  br (decide (np2 > (r3.Len - (atp1 - r2.At))))
  (some (none : Option (Int × Int × Int)))
  (ob (ix m.b search1) fun row1 =>
  chk (decide (0 ≤ ((atp1 - r2.At).toNat : Int) ∧ ((atp1 - r2.At).toNat : Int) ≤ (((atp1 - r2.At) + np2).toNat : Int) ∧ (((atp1 - r2.At) + np2).toNat : Int) ≤ len row1)) <|
  some (some (search1, ((atp1 - r2.At).toNat : Int), (((atp1 - r2.At) + np2).toNat : Int)))))))

/-- (*gmem.Mem).Write -/
def gmem_Mem_Write (m : gmem_Mem) (atp1 : UInt64) (arg2 : List UInt8) : Option (Int × (List (List UInt8))) :=
  ob (gmem_Mem_made m) fun made1 =>
  br ((len arg2) == (0 : Int))
  (some ((0 : Int), m.b))
  (ob (gmem_Mem_bytes m atp1 (u64 (len arg2))) fun bytes1 =>
  onO bytes1
  (some ((5 : Int), m.b))
  (fun w1 =>
  ob (ix m.b w1.1) fun row1 =>
  chk (decide (0 ≤ w1.2.1 ∧ w1.2.1 ≤ w1.2.2 ∧ w1.2.2 ≤ len row1)) <|
  chk (decide (w1.2.1 < w1.2.2)) <|
  some ((0 : Int), m.b.set (Int.toNat w1.1) (copyAt row1 w1.2.1 w1.2.2 arg2))))

/-- dumbwaiterlaw02.two -/
def law02ztwo  : Option (List Region) :=
  some [(Region.mk (100 : UInt64) (8 : UInt64)), (Region.mk (108 : UInt64) (4 : UInt64))]

/-- gmem.isWord -/
def gmem_isWord (np0 : Int) : Option Bool :=
  br (np0 == (1 : Int))
  (some true)
  (br (np0 == (2 : Int))
  (some true)
  (br (np0 == (4 : Int))
  (some true)
  (some (np0 == (8 : Int)))))

def gmem_Mem_StoreL1B (m : gmem_Mem) (bytes : Int) (vp3 : UInt64) (w1 : Int × Int × Int) (L1 : (List UInt8) → Int → Option (Int × (List (List UInt8)))) (row2 : List UInt8) (x1 : Int) : Option (Int × (List (List UInt8))) :=
  chk (decide (0 ≤ w1.2.1 ∧ w1.2.1 ≤ w1.2.2 ∧ w1.2.2 ≤ len row2)) <|
  br (decide (x1 < bytes))
  (chk (decide (0 ≤ wi ((8 : Int) * x1))) <|
  ob (ix (sub row2 w1.2.1 w1.2.2) x1) fun y1 =>
  L1 (row2.set (w1.2.1 + x1).toNat ((shr64 vp3 ((wi ((8 : Int) * x1)).toNat)).toUInt8)) (wi (x1 + (1 : Int))))
  (some ((0 : Int), m.b.set (Int.toNat w1.1) row2))

def gmem_Mem_StoreL1 (m : gmem_Mem) (bytes : Int) (vp3 : UInt64) (w1 : Int × Int × Int) : Nat → (List UInt8) → Int → Option (Int × (List (List UInt8)))
  | 0, _, _ => none
  | nf + 1, row2, x1 => gmem_Mem_StoreL1B m bytes vp3 w1 (gmem_Mem_StoreL1 m bytes vp3 w1 nf) row2 x1

/-- (*gmem.Mem).Store -/
def gmem_Mem_Store (m : gmem_Mem) (atp1 : UInt64) (bytes : Int) (vp3 : UInt64) : Option (Int × (List (List UInt8))) :=
  ob (gmem_Mem_made m) fun made1 =>
  ob (gmem_isWord bytes) fun isword1 =>
  br ((!isword1))
  (some ((2 : Int), m.b))
  (ob (gmem_Mem_bytes m atp1 (u64 bytes)) fun bytes1 =>
  onO bytes1
  (some ((5 : Int), m.b))
  (fun w1 =>
  ob (ix m.b w1.1) fun row1 =>
  chk (decide (0 ≤ w1.2.1 ∧ w1.2.1 ≤ w1.2.2 ∧ w1.2.2 ≤ len row1)) <|
  chk (decide (w1.2.1 < w1.2.2)) <|
  gmem_Mem_StoreL1 m bytes vp3 w1 fuel row1 (0 : Int)))

def gmem_Mem_LoadL1B (bytes : Int) (w1 : Int × Int × Int) (row1 : List UInt8) (L1 : UInt64 → Int → Option (UInt64 × Int)) (v1 : UInt64) (x1 : Int) : Option (UInt64 × Int) :=
  br (decide (x1 < bytes))
  (ob (ix (sub row1 w1.2.1 w1.2.2) x1) fun y1 =>
  chk (decide (0 ≤ wi ((8 : Int) * x1))) <|
  L1 (v1 ||| (shl64 y1.toUInt64 ((wi ((8 : Int) * x1)).toNat))) (wi (x1 + (1 : Int))))
  (some (v1, (0 : Int)))

def gmem_Mem_LoadL1 (bytes : Int) (w1 : Int × Int × Int) (row1 : List UInt8) : Nat → UInt64 → Int → Option (UInt64 × Int)
  | 0, _, _ => none
  | nf + 1, v1, x1 => gmem_Mem_LoadL1B bytes w1 row1 (gmem_Mem_LoadL1 bytes w1 row1 nf) v1 x1

/-- (*gmem.Mem).Load -/
def gmem_Mem_Load (m : gmem_Mem) (atp1 : UInt64) (bytes : Int) : Option (UInt64 × Int) :=
  ob (gmem_Mem_made m) fun made1 =>
  ob (gmem_isWord bytes) fun isword1 =>
  br ((!isword1))
  (some ((0 : UInt64), (2 : Int)))
  (ob (gmem_Mem_bytes m atp1 (u64 bytes)) fun bytes1 =>
  onO bytes1
  (some ((0 : UInt64), (5 : Int)))
  (fun w1 =>
  ob (ix m.b w1.1) fun row1 =>
  chk (decide (0 ≤ w1.2.1 ∧ w1.2.1 ≤ w1.2.2 ∧ w1.2.2 ≤ len row1)) <|
  chk (decide (w1.2.1 < w1.2.2)) <|
  gmem_Mem_LoadL1 bytes w1 row1 fuel (0 : UInt64) (0 : Int)))

/-- (*gmem.Mem).Has -/
def gmem_Mem_Has (m : gmem_Mem) (atp1 : UInt64) (np2 : UInt64) : Option Bool :=
  ob (gmem_Mem_made m) fun made1 =>
  ob (gmem_Mem_bytes m atp1 np2) fun bytes1 =>
  onO bytes1
  (some false)
  (fun w1 =>
  ob (ix m.b w1.1) fun row1 =>
  chk (decide (0 ≤ w1.2.1 ∧ w1.2.1 ≤ w1.2.2 ∧ w1.2.2 ≤ len row1)) <|
  chk (decide (w1.2.1 < w1.2.2)) <|
  some true)

/-- dumbwaiterlaw02.lives -/
def law02zlives  : Option Bool :=
  ob (law02ztwo) fun two1 =>
  ob (gmem_New two1) fun new1 =>
  onO new1.1
  (none)
  (fun mem1 =>
  br (new1.2 != (0 : Int))
  (some false)
  (ob (gmem_Mem_Store mem1 (102 : UInt64) (4 : Int) (1 : UInt64)) fun store1 =>
  br (store1.1 != (0 : Int))
  (some false)
  (ob (gmem_Mem_Load (gmem_Mem.mk mem1.l store1.2) (102 : UInt64) (2 : Int)) fun load1 =>
  ob (gmem_Mem_Load (gmem_Mem.mk mem1.l store1.2) (106 : UInt64) (4 : Int)) fun load2 =>
  br (load1.2 == (0 : Int))
  (br (load1.1 == (1 : UInt64))
  (br (load2.2 == (5 : Int))
  (ob (gmem_Mem_Has (gmem_Mem.mk mem1.l store1.2) (18446744073709551615 : UInt64) (2 : UInt64)) fun has1 =>
  some (!has1))
  (some false))
  (some false))
  (some false))))

/-- dumbwaiterkit.Pick -/
def kit_Pick (np0 : Int) (m : Int) : Option Int :=
  br (decide (m < (1 : Int)))
  (some (0 : Int))
  (chk (!(m == 0)) <|
  br (decide ((remi np0 m) < (0 : Int)))
  (some (wi ((remi np0 m) + m)))
  (some (remi np0 m)))

def law02zGmemHolds_1L1B (atp0 : UInt64) (np1 : UInt64) (arg2 : List Region) (L1 : Int → Option Bool) (i1 : Int) : Option Bool :=
  br (decide (i1 < (len arg2)))
  (br (decide (np1 > (0 : UInt64)))
  (ob (ix arg2 i1) fun r1 =>
  br (decide (atp0 ≥ r1.At))
  (br (decide ((atp0 + (np1 - (1 : UInt64))) ≥ atp0))
  (ob (ix arg2 i1) fun r2 =>
  ob (ix arg2 i1) fun r3 =>
  br (decide ((atp0 + (np1 - (1 : UInt64))) ≤ (r2.At + (r3.Len - (1 : UInt64)))))
  (some true)
  (L1 (wi (i1 + (1 : Int)))))
  (L1 (wi (i1 + (1 : Int)))))
  (L1 (wi (i1 + (1 : Int)))))
  (L1 (wi (i1 + (1 : Int)))))
  (some false)

def law02zGmemHolds_1L1 (atp0 : UInt64) (np1 : UInt64) (arg2 : List Region) : Nat → Int → Option Bool
  | 0, _ => none
  | nf + 1, i1 => law02zGmemHolds_1L1B atp0 np1 arg2 (law02zGmemHolds_1L1 atp0 np1 arg2 nf) i1

/-- dumbwaiterlaw02.GmemHolds$1 -/
def law02zGmemHolds_1 (atp0 : UInt64) (np1 : UInt64) (arg2 : List Region) : Option Bool :=
  law02zGmemHolds_1L1 atp0 np1 arg2 fuel (0 : Int)

def slices_Grow_bytebyten0J1 (np1 : Int)  : Option (List UInt8) :=
  br (decide ((wi (np1 - (wi ((0 : Int) - (0 : Int))))) > (0 : Int)))
  (chk (decide (0 ≤ (wi (np1 - (wi ((0 : Int) - (0 : Int))))) ∧ (1 : Int) * (wi (np1 - (wi ((0 : Int) - (0 : Int))))) ≤ 140737488355328)) <|
  chk (decide (0 ≤ (0 : Int) ∧ (0 : Int) ≤ len (List.replicate (wi (np1 - (wi ((0 : Int) - (0 : Int))))).toNat (0 : UInt8)))) <|
  some ((List.replicate (wi (np1 - (wi ((0 : Int) - (0 : Int))))).toNat (0 : UInt8)).take (0 : Int).toNat))
  (some ([] : List UInt8))

/-- slices.Grow[[]byte,byte] -/
def slices_Grow_bytebyten0 (np1 : Int) : Option (List UInt8) :=
  chk (!(decide (np1 < (0 : Int)))) <|
  slices_Grow_bytebyten0J1 np1

def slices_Concat_bytebyteJ2 (x1 : Int) (L1 : Int → Int → Option (List UInt8)) (size2 : Int) : Option (List UInt8) :=
  L1 size2 (wi (x1 + (1 : Int)))

def slices_Concat_bytebyteJ3 (size1 : Int) (x1 : Int) (L1 : Int → Int → Option (List UInt8)) (y1 : List UInt8)  : Option (List UInt8) :=
  slices_Concat_bytebyteJ2 x1 L1 (wi (size1 + (len y1)))

def slices_Concat_bytebyteL4B (slices : List (List UInt8)) (L4 : (List UInt8) → Int → Option (List UInt8)) (newslice1 : List UInt8) (x2 : Int) : Option (List UInt8) :=
  br (decide (x2 < (len slices)))
  (ob (ix slices x2) fun y2 =>
  chk (fits newslice1.length y2.length 1) <|
  L4 (newslice1 ++ y2) (wi (x2 + (1 : Int))))
  (some newslice1)

def slices_Concat_bytebyteL4 (slices : List (List UInt8)) : Nat → (List UInt8) → Int → Option (List UInt8)
  | 0, _, _ => none
  | nf + 1, newslice1, x2 => slices_Concat_bytebyteL4B slices (slices_Concat_bytebyteL4 slices nf) newslice1 x2

def slices_Concat_bytebyteL1B (slices : List (List UInt8)) (L1 : Int → Int → Option (List UInt8)) (size1 : Int) (x1 : Int) : Option (List UInt8) :=
  br (decide (x1 < (len slices)))
  (ob (ix slices x1) fun y1 =>
  chk (!(decide ((wi (size1 + (len y1))) < (0 : Int)))) <|
  slices_Concat_bytebyteJ3 size1 x1 L1 y1)
  (ob (slices_Grow_bytebyten0 size1) fun growby1 =>
  slices_Concat_bytebyteL4 slices fuel growby1 (0 : Int))

def slices_Concat_bytebyteL1 (slices : List (List UInt8)) : Nat → Int → Int → Option (List UInt8)
  | 0, _, _ => none
  | nf + 1, size1, x1 => slices_Concat_bytebyteL1B slices (slices_Concat_bytebyteL1 slices nf) size1 x1

/-- slices.Concat[[]byte,byte] -/
def slices_Concat_bytebyte (slices : List (List UInt8)) : Option (List UInt8) :=
  slices_Concat_bytebyteL1 slices fuel (0 : Int) (0 : Int)

/-- (*gmem.Mem).Image -/
def gmem_Mem_Image (m : gmem_Mem) : Option (List UInt8) :=
  ob (gmem_Mem_made m) fun made1 =>
  ob (slices_Concat_bytebyte m.b) fun concat1 =>
  some concat1

def law02zGmemHoldsJ2 (i1 : Int) (L1 : (List Region) → (List (List UInt8)) → (List (UInt64 × UInt8)) → Int → Option Bool) (m2 : List Region) (rows2 : List (List UInt8)) (map2 : List (UInt64 × UInt8)) : Option Bool :=
  L1 m2 rows2 map2 (wi (i1 + (1 : Int)))

def law02zGmemHoldsJ3 (i1 : Int) (L1 : (List Region) → (List (List UInt8)) → (List (UInt64 × UInt8)) → Int → Option Bool) (m3 : List Region) (rows3 : List (List UInt8)) (map3 : List (UInt64 × UInt8)) : Option Bool :=
  law02zGmemHoldsJ2 i1 L1 m3 rows3 map3

def law02zGmemHoldsJ4 (i1 : Int) (L1 : (List Region) → (List (List UInt8)) → (List (UInt64 × UInt8)) → Int → Option Bool) (m4 : List Region) (rows4 : List (List UInt8)) (map4 : List (UInt64 × UInt8)) : Option Bool :=
  law02zGmemHoldsJ3 i1 L1 m4 rows4 map4

def law02zGmemHoldsL5B (m1 : List Region) (rows1 : List (List UInt8)) (map1 : List (UInt64 × UInt8)) (i1 : Int) (L1 : (List Region) → (List (List UInt8)) → (List (UInt64 × UInt8)) → Int → Option Bool) (d1 : dumbwaiterlaw02_Act) (y1 : Int) (load1 : (UInt64 × Int)) (L5 : UInt64 → Int → Option Bool) (want1 : UInt64) (k1 : Int) : Option Bool :=
  br (decide (k1 ≥ (0 : Int)))
  (L5 (((256 : UInt64) * want1) + ((mget (0 : UInt8) (d1.At + (u64 k1)) map1).toUInt64)) (wi (k1 - (1 : Int))))
  (ob (law02zGmemHolds_1 d1.At (u64 y1) m1) fun gmemho1 =>
  chk (!((load1.2 == (0 : Int)) != gmemho1)) <|
  br (load1.2 == (0 : Int))
  (chk (!(load1.1 != want1)) <|
  law02zGmemHoldsJ4 i1 L1 m1 rows1 map1)
  (law02zGmemHoldsJ4 i1 L1 m1 rows1 map1))

def law02zGmemHoldsL5 (m1 : List Region) (rows1 : List (List UInt8)) (map1 : List (UInt64 × UInt8)) (i1 : Int) (L1 : (List Region) → (List (List UInt8)) → (List (UInt64 × UInt8)) → Int → Option Bool) (d1 : dumbwaiterlaw02_Act) (y1 : Int) (load1 : (UInt64 × Int)) : Nat → UInt64 → Int → Option Bool
  | 0, _, _ => none
  | nf + 1, want1, k1 => law02zGmemHoldsL5B m1 rows1 map1 i1 L1 d1 y1 load1 (law02zGmemHoldsL5 m1 rows1 map1 i1 L1 d1 y1 load1 nf) want1 k1

def law02zGmemHoldsL6B (i1 : Int) (L1 : (List Region) → (List (List UInt8)) → (List (UInt64 × UInt8)) → Int → Option Bool) (y1 : Int) (store1 : (Int × (List (List UInt8)))) (L6 : (List Region) → (List (UInt64 × UInt8)) → Int → UInt64 → Int → UInt64 → (List UInt8) → Int → Option Bool) (m5 : List Region) (map5 : List (UInt64 × UInt8)) (Kind1 : Int) (At1 : UInt64) (N1 : Int) (V1 : UInt64) (B1 : List UInt8) (k2 : Int) : Option Bool :=
  br (decide (k2 < y1))
  (br (store1.1 == (0 : Int))
  (L6 m5 (mput (At1 + (u64 k2)) ((shr64 V1 ((u64 (wi ((8 : Int) * k2))).toNat)).toUInt8) map5) Kind1 At1 N1 V1 B1 (wi (k2 + (1 : Int))))
  (law02zGmemHoldsJ4 i1 L1 m5 store1.2 map5))
  (law02zGmemHoldsJ4 i1 L1 m5 store1.2 map5)

def law02zGmemHoldsL6 (i1 : Int) (L1 : (List Region) → (List (List UInt8)) → (List (UInt64 × UInt8)) → Int → Option Bool) (y1 : Int) (store1 : (Int × (List (List UInt8)))) : Nat → (List Region) → (List (UInt64 × UInt8)) → Int → UInt64 → Int → UInt64 → (List UInt8) → Int → Option Bool
  | 0, _, _, _, _, _, _, _, _ => none
  | nf + 1, m5, map5, Kind1, At1, N1, V1, B1, k2 => law02zGmemHoldsL6B i1 L1 y1 store1 (law02zGmemHoldsL6 i1 L1 y1 store1 nf) m5 map5 Kind1 At1 N1 V1 B1 k2

def law02zGmemHoldsL7B (i1 : Int) (L1 : (List Region) → (List (List UInt8)) → (List (UInt64 × UInt8)) → Int → Option Bool) (write1 : (Int × (List (List UInt8)))) (L7 : (List Region) → (List (UInt64 × UInt8)) → Int → UInt64 → Int → UInt64 → (List UInt8) → Int → Option Bool) (m6 : List Region) (map6 : List (UInt64 × UInt8)) (Kind2 : Int) (At2 : UInt64) (N2 : Int) (V2 : UInt64) (B2 : List UInt8) (k3 : Int) : Option Bool :=
  br (decide (k3 < (len B2)))
  (br (write1.1 == (0 : Int))
  (ob (ix B2 k3) fun y2 =>
  L7 m6 (mput (At2 + (u64 k3)) y2 map6) Kind2 At2 N2 V2 B2 (wi (k3 + (1 : Int))))
  (law02zGmemHoldsJ4 i1 L1 m6 write1.2 map6))
  (law02zGmemHoldsJ4 i1 L1 m6 write1.2 map6)

def law02zGmemHoldsL7 (i1 : Int) (L1 : (List Region) → (List (List UInt8)) → (List (UInt64 × UInt8)) → Int → Option Bool) (write1 : (Int × (List (List UInt8)))) : Nat → (List Region) → (List (UInt64 × UInt8)) → Int → UInt64 → Int → UInt64 → (List UInt8) → Int → Option Bool
  | 0, _, _, _, _, _, _, _, _ => none
  | nf + 1, m6, map6, Kind2, At2, N2, V2, B2, k3 => law02zGmemHoldsL7B i1 L1 write1 (law02zGmemHoldsL7 i1 L1 write1 nf) m6 map6 Kind2 At2 N2 V2 B2 k3

def law02zGmemHoldsL8B (i1 : Int) (L1 : (List Region) → (List (List UInt8)) → (List (UInt64 × UInt8)) → Int → Option Bool) (write1 : (Int × (List (List UInt8)))) (L8 : (List Region) → (List (UInt64 × UInt8)) → Int → UInt64 → Int → UInt64 → (List UInt8) → Int → Option Bool) (m7 : List Region) (map7 : List (UInt64 × UInt8)) (Kind3 : Int) (At3 : UInt64) (N3 : Int) (V3 : UInt64) (B3 : List UInt8) (k4 : Int) : Option Bool :=
  br (decide (k4 < (len B3)))
  (br (write1.1 == (0 : Int))
  (ob (ix B3 k4) fun y3 =>
  L8 m7 (mput (At3 + (u64 k4)) y3 map7) Kind3 At3 N3 V3 B3 (wi (k4 + (1 : Int))))
  (law02zGmemHoldsJ4 i1 L1 m7 write1.2 map7))
  (law02zGmemHoldsJ4 i1 L1 m7 write1.2 map7)

def law02zGmemHoldsL8 (i1 : Int) (L1 : (List Region) → (List (List UInt8)) → (List (UInt64 × UInt8)) → Int → Option Bool) (write1 : (Int × (List (List UInt8)))) : Nat → (List Region) → (List (UInt64 × UInt8)) → Int → UInt64 → Int → UInt64 → (List UInt8) → Int → Option Bool
  | 0, _, _, _, _, _, _, _, _ => none
  | nf + 1, m7, map7, Kind3, At3, N3, V3, B3, k4 => law02zGmemHoldsL8B i1 L1 write1 (law02zGmemHoldsL8 i1 L1 write1 nf) m7 map7 Kind3 At3 N3 V3 B3 k4

def law02zGmemHoldsL10B (m1 : List Region) (map1 : List (UInt64 × UInt8)) (image1 : (List UInt8)) (i2 : Int) (L9 : Int → Int → Option Bool) (L10 : Int → UInt64 → Option Bool) (n2 : Int) (k5 : UInt64) : Option Bool :=
  ob (ix m1 i2) fun r1 =>
  br (decide (k5 < r1.Len))
  (chk (!(decide (n2 ≥ (len image1)))) <|
  ob (ix image1 n2) fun y4 =>
  ob (ix m1 i2) fun r2 =>
  chk (!(y4 != (mget (0 : UInt8) (r2.At + k5) map1))) <|
  L10 (wi (n2 + (1 : Int))) (k5 + (1 : UInt64)))
  (L9 n2 (wi (i2 + (1 : Int))))

def law02zGmemHoldsL10 (m1 : List Region) (map1 : List (UInt64 × UInt8)) (image1 : (List UInt8)) (i2 : Int) (L9 : Int → Int → Option Bool) : Nat → Int → UInt64 → Option Bool
  | 0, _, _ => none
  | nf + 1, n2, k5 => law02zGmemHoldsL10B m1 map1 image1 i2 L9 (law02zGmemHoldsL10 m1 map1 image1 i2 L9 nf) n2 k5

def law02zGmemHoldsL9B (m1 : List Region) (map1 : List (UInt64 × UInt8)) (image1 : (List UInt8)) (L9 : Int → Int → Option Bool) (n1 : Int) (i2 : Int) : Option Bool :=
  br (decide (i2 < (len m1)))
  (law02zGmemHoldsL10 m1 map1 image1 i2 L9 fuel n1 (0 : UInt64))
  (chk (n1 == (len image1)) <|
  some true)

def law02zGmemHoldsL9 (m1 : List Region) (map1 : List (UInt64 × UInt8)) (image1 : (List UInt8)) : Nat → Int → Int → Option Bool
  | 0, _, _ => none
  | nf + 1, n1, i2 => law02zGmemHoldsL9B m1 map1 image1 (law02zGmemHoldsL9 m1 map1 image1 nf) n1 i2

def law02zGmemHoldsL1B (calls : List dumbwaiterlaw02_Act) (mem1 : gmem_Mem) (L1 : (List Region) → (List (List UInt8)) → (List (UInt64 × UInt8)) → Int → Option Bool) (m1 : List Region) (rows1 : List (List UInt8)) (map1 : List (UInt64 × UInt8)) (i1 : Int) : Option Bool :=
  br (decide (i1 < (len calls)))
  (ob (ix calls i1) fun d1 =>
  ob (kit_Pick d1.N (4 : Int)) fun pick1 =>
  ob (ix [(1 : Int), (2 : Int), (4 : Int), (8 : Int)] pick1) fun y1 =>
  ob (kit_Pick d1.Kind (5 : Int)) fun pick2 =>
  br (pick2 == (0 : Int))
  (ob (gmem_Mem_Load (gmem_Mem.mk mem1.l rows1) d1.At y1) fun load1 =>
  law02zGmemHoldsL5 m1 rows1 map1 i1 L1 d1 y1 load1 fuel (0 : UInt64) (wi (y1 - (1 : Int))))
  (br (pick2 == (1 : Int))
  (ob (gmem_Mem_Store (gmem_Mem.mk mem1.l rows1) d1.At y1 d1.V) fun store1 =>
  ob (law02zGmemHolds_1 d1.At (u64 y1) m1) fun gmemho2 =>
  chk (!((store1.1 == (0 : Int)) != gmemho2)) <|
  law02zGmemHoldsL6 i1 L1 y1 store1 fuel m1 map1 d1.Kind d1.At d1.N d1.V d1.B (0 : Int))
  (br (pick2 == (3 : Int))
  (ob (kit_Own d1.B) fun own1 =>
  ob (gmem_Mem_Write (gmem_Mem.mk mem1.l rows1) d1.At own1) fun write1 =>
  br ((len d1.B) == (0 : Int))
  (chk (!((write1.1 == (0 : Int)) != true)) <|
  law02zGmemHoldsL7 i1 L1 write1 fuel m1 map1 d1.Kind d1.At d1.N d1.V d1.B (0 : Int))
  (ob (law02zGmemHolds_1 d1.At (u64 (len d1.B)) m1) fun gmemho3 =>
  chk (!((write1.1 == (0 : Int)) != gmemho3)) <|
  law02zGmemHoldsL8 i1 L1 write1 fuel m1 map1 d1.Kind d1.At d1.N d1.V d1.B (0 : Int)))
  (ob (gmem_Mem_Has (gmem_Mem.mk mem1.l rows1) d1.At d1.V) fun has1 =>
  ob (law02zGmemHolds_1 d1.At d1.V m1) fun gmemho4 =>
  chk (!(has1 != gmemho4)) <|
  law02zGmemHoldsJ4 i1 L1 m1 rows1 map1))))
  (ob (gmem_Mem_Image (gmem_Mem.mk mem1.l rows1)) fun image1 =>
  law02zGmemHoldsL9 m1 map1 image1 fuel (0 : Int) (0 : Int))

def law02zGmemHoldsL1 (calls : List dumbwaiterlaw02_Act) (mem1 : gmem_Mem) : Nat → (List Region) → (List (List UInt8)) → (List (UInt64 × UInt8)) → Int → Option Bool
  | 0, _, _, _, _ => none
  | nf + 1, m1, rows1, map1, i1 => law02zGmemHoldsL1B calls mem1 (law02zGmemHoldsL1 calls mem1 nf) m1 rows1 map1 i1

/-- dumbwaiterlaw02.GmemHolds -/
def law02zGmemHolds (l : List Region) (calls : List dumbwaiterlaw02_Act) : Option Bool :=
  ob (law02zlives) fun lives1 =>
  chk (!((!lives1))) <|
  ob (kit_LightRegions l (20000 : UInt64)) fun lightr1 =>
  br ((!lightr1))
  (some true)
  (ob (law02zsmall calls) fun small1 =>
  br ((!small1))
  (some true)
  (ob (gmem_Check l) fun check1 =>
  br (check1 != (0 : Int))
  (some true)
  (ob (kit_Regions l) fun region1 =>
  ob (gmem_New region1) fun new1 =>
  onO new1.1
  (none)
  (fun mem1 =>
  chk (!(new1.2 != (0 : Int))) <|
  law02zGmemHoldsL1 calls mem1 fuel l mem1.b ([] : List (UInt64 × UInt8)) (0 : Int)))))

end Go.Proofs.Ytecmlfmbmligeaa
