/- What the functions reckon, as plain words. No statement of the seat is proved here; no condition. -/
import Derived.Test.YtihcimjfabdafaaTy
namespace Go.Proofs.Ytihcimjfabdafaa

/-- dumbwaiterlaw09.two -/
def law09ztwo  : Option (List Seg) :=
  some [(Seg.mk (100 : UInt64) (8 : UInt32) false), (Seg.mk (200 : UInt64) (4 : UInt32) true)]

/-- seg.Check$1 -/
def seg_Check_1 (arg0 : Int) (arg1 : UInt64) : Option Int :=
  br (arg0 == (0 : Int))
  (br (decide (arg1 ≥ (4294967296 : UInt64)))
  (some (2 : Int))
  (some arg0))
  (some arg0)

def seg_CheckL1B (l : List Seg) (L1 : Int → UInt64 → Int → Option Int) (m1 : Int) (m2 : UInt64) (x1 : Int) : Option Int :=
  br (decide (x1 < (len l)))
  (ob (ix l x1) fun s1 =>
  br (decide (s1.Len < (1 : UInt32)))
  (ob (seg_Check_1 (2 : Int) m2) fun check1 =>
  some check1)
  (br (decide ((s1.Len.toUInt64 - (1 : UInt64)) > ((18446744073709551615 : UInt64) - s1.At)))
  (ob (seg_Check_1 (2 : Int) m2) fun check2 =>
  some check2)
  (br (decide (x1 > (0 : Int)))
  (ob (ix l (wi (x1 - (1 : Int)))) fun s2 =>
  br (s2.Write)
  (br ((!s1.Write))
  (ob (seg_Check_1 (2 : Int) m2) fun check3 =>
  some check3)
  (L1 m1 (m2 + s1.Len.toUInt64) (wi (x1 + (1 : Int)))))
  (L1 m1 (m2 + s1.Len.toUInt64) (wi (x1 + (1 : Int)))))
  (L1 m1 (m2 + s1.Len.toUInt64) (wi (x1 + (1 : Int)))))))
  (ob (seg_Check_1 (0 : Int) m2) fun check4 =>
  some check4)

def seg_CheckL1 (l : List Seg) : Nat → Int → UInt64 → Int → Option Int
  | 0, _, _, _ => none
  | nf + 1, m1, m2, x1 => seg_CheckL1B l (seg_CheckL1 l nf) m1 m2 x1

/-- seg.Check -/
def seg_Check (l : List Seg) : Option Int :=
  br (decide ((len l) > (64 : Int)))
  (some (3 : Int))
  (seg_CheckL1 l fuel (0 : Int) (0 : UInt64) (0 : Int))

/-- build.wrong$1 -/
def build_wrong_1 (arg0 : Bool) : Option Int :=
  br (arg0)
  (some (2 : Int))
  (some (0 : Int))

/-- build.wrong -/
def build_wrong (is : Bool) : Option (Option Int) :=
  some (build_wrong_1 is)

/-- build.buffer$1 -/
def build_buffer_1 (arg0 : List Seg) : Option Int :=
  ob (seg_Check arg0) fun check1 =>
  br (check1 != (0 : Int))
  (some check1)
  (ob (build_wrong ((len arg0) == (0 : Int))) fun wrong1 =>
  ob (wrong1) fun y1 =>
  some y1)

/-- build.buffer -/
def build_buffer (l : List Seg) : Option (Option Int) :=
  some (build_buffer_1 l)

/-- build.isID -/
def build_isID (np0 : Int) : Option Bool :=
  br (decide (np0 ≥ (0 : Int)))
  (some (decide (np0 < (32768 : Int))))
  (some false)

def build_apartL1B (ids : List Int) (L1 : (List (Int × Bool)) → Int → Option Bool) (map1 : List (Int × Bool)) (x1 : Int) : Option Bool :=
  br (decide (x1 < (len ids)))
  (ob (ix ids x1) fun y1 =>
  ob (build_isID y1) fun isid1 =>
  br ((!isid1))
  (some false)
  (br (mget false y1 map1)
  (some false)
  (L1 (mput y1 true map1) (wi (x1 + (1 : Int))))))
  (some true)

def build_apartL1 (ids : List Int) : Nat → (List (Int × Bool)) → Int → Option Bool
  | 0, _, _ => none
  | nf + 1, map1, x1 => build_apartL1B ids (build_apartL1 ids nf) map1 x1

/-- build.apart -/
def build_apart (ids : List Int) : Option Bool :=
  build_apartL1 ids fuel ([] : List (Int × Bool)) (0 : Int)

def build_firstL1B (l : List (Option Int)) (L1 : Int → Option Int) (x1 : Int) : Option Int :=
  br (decide (x1 < (len l)))
  (ob (ix l x1) fun y1 =>
  ob (y1) fun y2 =>
  br (y2 != (0 : Int))
  (some y2)
  (L1 (wi (x1 + (1 : Int)))))
  (some (0 : Int))

def build_firstL1 (l : List (Option Int)) : Nat → Int → Option Int
  | 0, _ => none
  | nf + 1, x1 => build_firstL1B l (build_firstL1 l nf) x1

/-- build.first -/
def build_first (l : List (Option Int)) : Option Int :=
  build_firstL1 l fuel (0 : Int)

def build_split_madeJ1 (more : Bool) (m1 : build_split) : Option build_split :=
  br (more)
  (some (build_split.mk (Desc.mk m1.Desc.Addr m1.Desc.Len (m1.Desc.Flags ||| (1 : UInt16)) (u16 m1.next)) m1.next))
  (some m1)

/-- (build.split).made -/
def build_split_made (dp0 : build_split) (sp1 : Seg) (more : Bool) : Option build_split :=
  br (sp1.Write)
  (build_split_madeJ1 more (build_split.mk (Desc.mk sp1.At sp1.Len ((0 : UInt16) ||| (2 : UInt16)) (0 : UInt16)) dp0.next))
  (build_split_madeJ1 more (build_split.mk (Desc.mk sp1.At sp1.Len (0 : UInt16) (0 : UInt16)) dp0.next))

def build_chain_buildsplitL1B (l : List Seg) (of : Int → Option build_split) (L1 : (List build_split) → Int → Option (List build_split)) (out1 : List build_split) (x1 : Int) : Option (List build_split) :=
  br (decide (x1 < (len l)))
  (ob (ix l x1) fun s1 =>
  ob (of x1) fun y1 =>
  ob (build_split_made y1 s1 (decide ((wi (x1 + (1 : Int))) < (len l)))) fun made1 =>
  chk (fits out1.length [made1].length 24) <|
  L1 (out1 ++ [made1]) (wi (x1 + (1 : Int))))
  (some out1)

def build_chain_buildsplitL1 (l : List Seg) (of : Int → Option build_split) : Nat → (List build_split) → Int → Option (List build_split)
  | 0, _, _ => none
  | nf + 1, out1, x1 => build_chain_buildsplitL1B l of (build_chain_buildsplitL1 l of nf) out1 x1

/-- build.chain[build.split] -/
def build_chain_buildsplit (l : List Seg) (of : Int → Option build_split) : Option (List build_split) :=
  chk (decide (0 ≤ (0 : Int) ∧ (0 : Int) ≤ (len l) ∧ (24 : Int) * (len l) ≤ 140737488355328)) <|
  build_chain_buildsplitL1 l of fuel (List.replicate (0 : Int).toNat (build_split.mk (Desc.mk (0 : UInt64) (0 : UInt32) (0 : UInt16) (0 : UInt16)) (0 : Int))) (0 : Int)

/-- build.Split$1 -/
def build_Split_1 (ip0 : Int) (arg1 : List Int) : Option build_split :=
  br (decide ((wi (ip0 + (1 : Int))) < (len arg1)))
  (ob (ix arg1 (wi (ip0 + (1 : Int)))) fun y1 =>
  some (build_split.mk (Desc.mk (0 : UInt64) (0 : UInt32) (0 : UInt16) (0 : UInt16)) y1))
  (some (build_split.mk (Desc.mk (0 : UInt64) (0 : UInt32) (0 : UInt16) (0 : UInt16)) (0 : Int)))

def build_SplitL1B (ids : List Int) (split1 : (List build_split)) (L1 : (List Put) → (List build_split) → Int → Option ((List Put) × Int)) (out1 : List Put) (l1 : List build_split) (x1 : Int) : Option ((List Put) × Int) :=
  br (decide (x1 < (len split1)))
  (ob (ix l1 x1) fun b2 =>
  ob (ix ids x1) fun y1 =>
  chk (fits out1.length [(Put.mk y1 b2.Desc)].length 24) <|
  L1 (out1 ++ [(Put.mk y1 b2.Desc)]) l1 (wi (x1 + (1 : Int))))
  (some (out1, (0 : Int)))

def build_SplitL1 (ids : List Int) (split1 : (List build_split)) : Nat → (List Put) → (List build_split) → Int → Option ((List Put) × Int)
  | 0, _, _, _ => none
  | nf + 1, out1, l1, x1 => build_SplitL1B ids split1 (build_SplitL1 ids split1 nf) out1 l1 x1

def build_SplitL2B (ids : List Int) (split2 : (List build_split)) (L2 : (List Put) → (List build_split) → Int → Option ((List Put) × Int)) (out2 : List Put) (l2 : List build_split) (x2 : Int) : Option ((List Put) × Int) :=
  br (decide (x2 < (len split2)))
  (ob (ix l2 x2) fun b4 =>
  ob (ix ids x2) fun y2 =>
  chk (fits out2.length [(Put.mk y2 b4.Desc)].length 24) <|
  L2 (out2 ++ [(Put.mk y2 b4.Desc)]) l2 (wi (x2 + (1 : Int))))
  (some (out2, (0 : Int)))

def build_SplitL2 (ids : List Int) (split2 : (List build_split)) : Nat → (List Put) → (List build_split) → Int → Option ((List Put) × Int)
  | 0, _, _, _ => none
  | nf + 1, out2, l2, x2 => build_SplitL2B ids split2 (build_SplitL2 ids split2 nf) out2 l2 x2

/-- build.Split -/
def build_Split (ids : List Int) (l : List Seg) : Option ((List Put) × Int) :=
  ob (build_buffer l) fun buffer1 =>
  br ((len ids) != (len l))
  (ob (build_wrong true) fun wrong1 =>
  ob (build_first [buffer1, wrong1]) fun first1 =>
  br (first1 != (0 : Int))
  (some (([] : List Put), first1))
  (ob (build_chain_buildsplit l (fun x => build_Split_1 x ids)) fun split1 =>
  build_SplitL1 ids split1 fuel [] split1 (0 : Int)))
  (ob (build_apart ids) fun apart1 =>
  ob (build_wrong (!apart1)) fun wrong2 =>
  ob (build_first [buffer1, wrong2]) fun first2 =>
  br (first2 != (0 : Int))
  (some (([] : List Put), first2))
  (ob (build_chain_buildsplit l (fun x => build_Split_1 x ids)) fun split2 =>
  build_SplitL2 ids split2 fuel [] split2 (0 : Int)))

def desc_MarkJ1 (wrap : Bool) (used : Bool) (flags1 : UInt16) : Option UInt16 :=
  br (wrap == used)
  (some (flags1 ||| (32768 : UInt16)))
  (some flags1)

/-- desc.Mark -/
def desc_Mark (flags : UInt16) (wrap : Bool) (used : Bool) : Option UInt16 :=
  br (wrap)
  (desc_MarkJ1 wrap used ((flags &&& ~~~(32896 : UInt16)) ||| (128 : UInt16)))
  (desc_MarkJ1 wrap used (flags &&& ~~~(32896 : UInt16)))

def build_packed_madeJ2  (m2 : build_packed) : Option build_packed :=
  ob (desc_Mark m2.Packed.Flags m2.wrap false) fun mark1 =>
  some (build_packed.mk (Packed.mk m2.Packed.Addr m2.Packed.Len m2.Packed.ID mark1) m2.id m2.wrap)

def build_packed_madeJ1 (more : Bool) (m1 : build_packed) : Option build_packed :=
  br (more)
  (build_packed_madeJ2 (build_packed.mk (Packed.mk m1.Packed.Addr m1.Packed.Len m1.Packed.ID (m1.Packed.Flags ||| (1 : UInt16))) m1.id m1.wrap))
  (build_packed_madeJ2 m1)

/-- (build.packed).made -/
def build_packed_made (dp0 : build_packed) (sp1 : Seg) (more : Bool) : Option build_packed :=
  br (sp1.Write)
  (build_packed_madeJ1 more (build_packed.mk (Packed.mk sp1.At sp1.Len (u16 dp0.id) ((0 : UInt16) ||| (2 : UInt16))) dp0.id dp0.wrap))
  (build_packed_madeJ1 more (build_packed.mk (Packed.mk sp1.At sp1.Len (u16 dp0.id) (0 : UInt16)) dp0.id dp0.wrap))

def build_chain_buildpackedL1B (l : List Seg) (of : Int → Option build_packed) (L1 : (List build_packed) → Int → Option (List build_packed)) (out1 : List build_packed) (x1 : Int) : Option (List build_packed) :=
  br (decide (x1 < (len l)))
  (ob (ix l x1) fun s1 =>
  ob (of x1) fun y1 =>
  ob (build_packed_made y1 s1 (decide ((wi (x1 + (1 : Int))) < (len l)))) fun made1 =>
  chk (fits out1.length [made1].length 32) <|
  L1 (out1 ++ [made1]) (wi (x1 + (1 : Int))))
  (some out1)

def build_chain_buildpackedL1 (l : List Seg) (of : Int → Option build_packed) : Nat → (List build_packed) → Int → Option (List build_packed)
  | 0, _, _ => none
  | nf + 1, out1, x1 => build_chain_buildpackedL1B l of (build_chain_buildpackedL1 l of nf) out1 x1

/-- build.chain[build.packed] -/
def build_chain_buildpacked (l : List Seg) (of : Int → Option build_packed) : Option (List build_packed) :=
  chk (decide (0 ≤ (0 : Int) ∧ (0 : Int) ≤ (len l) ∧ (32 : Int) * (len l) ≤ 140737488355328)) <|
  build_chain_buildpackedL1 l of fuel (List.replicate (0 : Int).toNat (build_packed.mk (Packed.mk (0 : UInt64) (0 : UInt32) (0 : UInt16) (0 : UInt16)) (0 : Int) false)) (0 : Int)

/-- serial.isSize -/
def serial_isSize (np0 : Int) : Option Bool :=
  br (decide (np0 ≥ (1 : Int)))
  (some (decide (np0 ≤ (32768 : Int))))
  (some false)

/-- serial.Check -/
def serial_Check (pp0 : Pos) (size : Int) : Option Int :=
  ob (serial_isSize size) fun issize1 =>
  br ((!issize1))
  (some (2 : Int))
  (br (decide (pp0.At < (0 : Int)))
  (some (2 : Int))
  (br (decide (pp0.At ≥ size))
  (some (2 : Int))
  (some (0 : Int))))

/-- serial.Go -/
def serial_Go (pp0 : Pos) (byp1 : Int) (size : Int) : Option (Pos × Int) :=
  ob (serial_Check pp0 size) fun check1 =>
  br (check1 != (0 : Int))
  (some ((Pos.mk (0 : Int) false), (2 : Int)))
  (br (decide (byp1 < (0 : Int)))
  (some ((Pos.mk (0 : Int) false), (2 : Int)))
  (br (decide (byp1 > size))
  (some ((Pos.mk (0 : Int) false), (2 : Int)))
  (br (decide ((wi (pp0.At + byp1)) ≥ size))
  (some ((Pos.mk (wi ((wi (pp0.At + byp1)) - size)) (!pp0.Wrap)), (0 : Int)))
  (some ((Pos.mk (wi (pp0.At + byp1)) pp0.Wrap), (0 : Int))))))

/-- build.Packed$1 -/
def build_Packed_1 (ip0 : Int) (arg1 : Int) (arg2 : List Pos) : Option build_packed :=
  ob (ix arg2 ip0) fun p1 =>
  some (build_packed.mk (Packed.mk (0 : UInt64) (0 : UInt32) (0 : UInt16) (0 : UInt16)) arg1 p1.Wrap)

def build_PackedL2B (m3 : List Pos) (packed1 : (List build_packed)) (L2 : (List PutPacked) → (List build_packed) → Int → Option ((List PutPacked) × Int)) (out1 : List PutPacked) (l1 : List build_packed) (x2 : Int) : Option ((List PutPacked) × Int) :=
  br (decide (x2 < (len packed1)))
  (ob (ix l1 x2) fun b4 =>
  ob (ix m3 x2) fun p1 =>
  chk (fits out1.length [(PutPacked.mk p1.At b4.Packed)].length 24) <|
  L2 (out1 ++ [(PutPacked.mk p1.At b4.Packed)]) l1 (wi (x2 + (1 : Int))))
  (some (out1, (0 : Int)))

def build_PackedL2 (m3 : List Pos) (packed1 : (List build_packed)) : Nat → (List PutPacked) → (List build_packed) → Int → Option ((List PutPacked) × Int)
  | 0, _, _, _ => none
  | nf + 1, out1, l1, x2 => build_PackedL2B m3 packed1 (build_PackedL2 m3 packed1 nf) out1 l1 x2

def build_PackedL1B (size : Int) (l : List Seg) (L1 : Pos → Int → (List Pos) → Int → Option ((List PutPacked) × Int)) (m1 : Pos) (m2 : Int) (m3 : List Pos) (x1 : Int) : Option ((List PutPacked) × Int) :=
  br (decide (x1 < (len l)))
  (chk (fits m3.length [m1].length 16) <|
  ob (serial_Go m1 (1 : Int) size) fun go1 =>
  L1 go1.1 m2 (m3 ++ [m1]) (wi (x1 + (1 : Int))))
  (ob (build_chain_buildpacked l (fun x => build_Packed_1 x m2 m3)) fun packed1 =>
  build_PackedL2 m3 packed1 fuel [] packed1 (0 : Int))

def build_PackedL1 (size : Int) (l : List Seg) : Nat → Pos → Int → (List Pos) → Int → Option ((List PutPacked) × Int)
  | 0, _, _, _, _ => none
  | nf + 1, m1, m2, m3, x1 => build_PackedL1B size l (build_PackedL1 size l nf) m1 m2 m3 x1

def build_PackedL4B (m6 : List Pos) (packed2 : (List build_packed)) (L4 : (List PutPacked) → (List build_packed) → Int → Option ((List PutPacked) × Int)) (out2 : List PutPacked) (l2 : List build_packed) (x4 : Int) : Option ((List PutPacked) × Int) :=
  br (decide (x4 < (len packed2)))
  (ob (ix l2 x4) fun b7 =>
  ob (ix m6 x4) fun p4 =>
  chk (fits out2.length [(PutPacked.mk p4.At b7.Packed)].length 24) <|
  L4 (out2 ++ [(PutPacked.mk p4.At b7.Packed)]) l2 (wi (x4 + (1 : Int))))
  (some (out2, (0 : Int)))

def build_PackedL4 (m6 : List Pos) (packed2 : (List build_packed)) : Nat → (List PutPacked) → (List build_packed) → Int → Option ((List PutPacked) × Int)
  | 0, _, _, _ => none
  | nf + 1, out2, l2, x4 => build_PackedL4B m6 packed2 (build_PackedL4 m6 packed2 nf) out2 l2 x4

def build_PackedL3B (size : Int) (l : List Seg) (L3 : Pos → Int → (List Pos) → Int → Option ((List PutPacked) × Int)) (m4 : Pos) (m5 : Int) (m6 : List Pos) (x3 : Int) : Option ((List PutPacked) × Int) :=
  br (decide (x3 < (len l)))
  (chk (fits m6.length [m4].length 16) <|
  ob (serial_Go m4 (1 : Int) size) fun go2 =>
  L3 go2.1 m5 (m6 ++ [m4]) (wi (x3 + (1 : Int))))
  (ob (build_chain_buildpacked l (fun x => build_Packed_1 x m5 m6)) fun packed2 =>
  build_PackedL4 m6 packed2 fuel [] packed2 (0 : Int))

def build_PackedL3 (size : Int) (l : List Seg) : Nat → Pos → Int → (List Pos) → Int → Option ((List PutPacked) × Int)
  | 0, _, _, _, _ => none
  | nf + 1, m4, m5, m6, x3 => build_PackedL3B size l (build_PackedL3 size l nf) m4 m5 m6 x3

def build_PackedL6B (m9 : List Pos) (packed3 : (List build_packed)) (L6 : (List PutPacked) → (List build_packed) → Int → Option ((List PutPacked) × Int)) (out3 : List PutPacked) (l3 : List build_packed) (x6 : Int) : Option ((List PutPacked) × Int) :=
  br (decide (x6 < (len packed3)))
  (ob (ix l3 x6) fun b10 =>
  ob (ix m9 x6) fun p7 =>
  chk (fits out3.length [(PutPacked.mk p7.At b10.Packed)].length 24) <|
  L6 (out3 ++ [(PutPacked.mk p7.At b10.Packed)]) l3 (wi (x6 + (1 : Int))))
  (some (out3, (0 : Int)))

def build_PackedL6 (m9 : List Pos) (packed3 : (List build_packed)) : Nat → (List PutPacked) → (List build_packed) → Int → Option ((List PutPacked) × Int)
  | 0, _, _, _ => none
  | nf + 1, out3, l3, x6 => build_PackedL6B m9 packed3 (build_PackedL6 m9 packed3 nf) out3 l3 x6

def build_PackedL5B (size : Int) (l : List Seg) (L5 : Pos → Int → (List Pos) → Int → Option ((List PutPacked) × Int)) (m7 : Pos) (m8 : Int) (m9 : List Pos) (x5 : Int) : Option ((List PutPacked) × Int) :=
  br (decide (x5 < (len l)))
  (chk (fits m9.length [m7].length 16) <|
  ob (serial_Go m7 (1 : Int) size) fun go3 =>
  L5 go3.1 m8 (m9 ++ [m7]) (wi (x5 + (1 : Int))))
  (ob (build_chain_buildpacked l (fun x => build_Packed_1 x m8 m9)) fun packed3 =>
  build_PackedL6 m9 packed3 fuel [] packed3 (0 : Int))

def build_PackedL5 (size : Int) (l : List Seg) : Nat → Pos → Int → (List Pos) → Int → Option ((List PutPacked) × Int)
  | 0, _, _, _, _ => none
  | nf + 1, m7, m8, m9, x5 => build_PackedL5B size l (build_PackedL5 size l nf) m7 m8 m9 x5

def build_PackedL8B (m12 : List Pos) (packed4 : (List build_packed)) (L8 : (List PutPacked) → (List build_packed) → Int → Option ((List PutPacked) × Int)) (out4 : List PutPacked) (l4 : List build_packed) (x8 : Int) : Option ((List PutPacked) × Int) :=
  br (decide (x8 < (len packed4)))
  (ob (ix l4 x8) fun b13 =>
  ob (ix m12 x8) fun p10 =>
  chk (fits out4.length [(PutPacked.mk p10.At b13.Packed)].length 24) <|
  L8 (out4 ++ [(PutPacked.mk p10.At b13.Packed)]) l4 (wi (x8 + (1 : Int))))
  (some (out4, (0 : Int)))

def build_PackedL8 (m12 : List Pos) (packed4 : (List build_packed)) : Nat → (List PutPacked) → (List build_packed) → Int → Option ((List PutPacked) × Int)
  | 0, _, _, _ => none
  | nf + 1, out4, l4, x8 => build_PackedL8B m12 packed4 (build_PackedL8 m12 packed4 nf) out4 l4 x8

def build_PackedL7B (size : Int) (l : List Seg) (L7 : Pos → Int → (List Pos) → Int → Option ((List PutPacked) × Int)) (m10 : Pos) (m11 : Int) (m12 : List Pos) (x7 : Int) : Option ((List PutPacked) × Int) :=
  br (decide (x7 < (len l)))
  (chk (fits m12.length [m10].length 16) <|
  ob (serial_Go m10 (1 : Int) size) fun go4 =>
  L7 go4.1 m11 (m12 ++ [m10]) (wi (x7 + (1 : Int))))
  (ob (build_chain_buildpacked l (fun x => build_Packed_1 x m11 m12)) fun packed4 =>
  build_PackedL8 m12 packed4 fuel [] packed4 (0 : Int))

def build_PackedL7 (size : Int) (l : List Seg) : Nat → Pos → Int → (List Pos) → Int → Option ((List PutPacked) × Int)
  | 0, _, _, _, _ => none
  | nf + 1, m10, m11, m12, x7 => build_PackedL7B size l (build_PackedL7 size l nf) m10 m11 m12 x7

/-- build.Packed -/
def build_Packed (pp0 : Pos) (size : Int) (id : Int) (l : List Seg) : Option ((List PutPacked) × Int) :=
  ob (build_buffer l) fun buffer1 =>
  ob (serial_Check pp0 size) fun check1 =>
  br (check1 != (0 : Int))
  (ob (build_wrong true) fun wrong1 =>
  ob (build_first [buffer1, wrong1]) fun first1 =>
  br (first1 != (0 : Int))
  (some (([] : List PutPacked), first1))
  (build_PackedL1 size l fuel pp0 id ([] : List Pos) (0 : Int)))
  (br (decide (id < (0 : Int)))
  (ob (build_wrong true) fun wrong2 =>
  ob (build_first [buffer1, wrong2]) fun first2 =>
  br (first2 != (0 : Int))
  (some (([] : List PutPacked), first2))
  (build_PackedL3 size l fuel pp0 id ([] : List Pos) (0 : Int)))
  (br (decide (id ≥ size))
  (ob (build_wrong true) fun wrong3 =>
  ob (build_first [buffer1, wrong3]) fun first3 =>
  br (first3 != (0 : Int))
  (some (([] : List PutPacked), first3))
  (build_PackedL5 size l fuel pp0 id ([] : List Pos) (0 : Int)))
  (ob (build_wrong (decide ((len l) > size))) fun wrong4 =>
  ob (build_first [buffer1, wrong4]) fun first4 =>
  br (first4 != (0 : Int))
  (some (([] : List PutPacked), first4))
  (build_PackedL7 size l fuel pp0 id ([] : List Pos) (0 : Int)))))

def desc_raw_putL1B (atp1 : Int) (np2 : Int) (vp3 : UInt64) (L1 : (List UInt8) → Int → Option (List UInt8)) (m1 : List UInt8) (x1 : Int) : Option (List UInt8) :=
  br (decide (x1 < np2))
  (chk (decide (0 ≤ wi ((8 : Int) * x1))) <|
  chk (decide (0 ≤ (wi (atp1 + x1)) ∧ (wi (atp1 + x1)) < (16 : Int))) <|
  chk (decide (0 ≤ (wi (atp1 + x1)) ∧ (wi (atp1 + x1)) < (m1.length : Int))) <|
  L1 (m1.set (wi (atp1 + x1)).toNat ((shr64 vp3 ((wi ((8 : Int) * x1)).toNat)).toUInt8)) (wi (x1 + (1 : Int))))
  (some m1)

def desc_raw_putL1 (atp1 : Int) (np2 : Int) (vp3 : UInt64) : Nat → (List UInt8) → Int → Option (List UInt8)
  | 0, _, _ => none
  | nf + 1, m1, x1 => desc_raw_putL1B atp1 np2 vp3 (desc_raw_putL1 atp1 np2 vp3 nf) m1 x1

/-- (*desc.raw).put -/
def desc_raw_put (rp0 : List UInt8) (atp1 : Int) (np2 : Int) (vp3 : UInt64) : Option (List UInt8) :=
  desc_raw_putL1 atp1 np2 vp3 fuel rp0 (0 : Int)

/-- desc.Bytes -/
def desc_Bytes (dp0 : Desc) : Option (List UInt8) :=
  ob (desc_raw_put (List.replicate 16 0) (0 : Int) (8 : Int) dp0.Addr) fun put1 =>
  ob (desc_raw_put put1 (8 : Int) (4 : Int) dp0.Len.toUInt64) fun put2 =>
  ob (desc_raw_put put2 (12 : Int) (2 : Int) dp0.Flags.toUInt64) fun put3 =>
  ob (desc_raw_put put3 (14 : Int) (2 : Int) dp0.Next.toUInt64) fun put4 =>
  chk (put4.length == 16) <|
  some put4

def desc_TableL1B (l : List Desc) (L1 : (List UInt8) → Int → Option (List UInt8)) (b1 : List UInt8) (x1 : Int) : Option (List UInt8) :=
  br (decide (x1 < (len l)))
  (ob (ix l x1) fun d1 =>
  ob (desc_Bytes d1) fun bytes1 =>
  chk (fits b1.length bytes1.length 1) <|
  L1 (b1 ++ bytes1) (wi (x1 + (1 : Int))))
  (some b1)

def desc_TableL1 (l : List Desc) : Nat → (List UInt8) → Int → Option (List UInt8)
  | 0, _, _ => none
  | nf + 1, b1, x1 => desc_TableL1B l (desc_TableL1 l nf) b1 x1

/-- desc.Table -/
def desc_Table (l : List Desc) : Option (List UInt8) :=
  desc_TableL1 l fuel [] (0 : Int)

/-- build.SplitTable$1 -/
def build_SplitTable_1 (ip0 : Int) : Option build_split :=
  some (build_split.mk (Desc.mk (0 : UInt64) (0 : UInt32) (0 : UInt16) (0 : UInt16)) (wi (ip0 + (1 : Int))))

def build_SplitTableL1B (split1 : (List build_split)) (L1 : (List Desc) → (List build_split) → Int → Option ((List UInt8) × Int)) (out1 : List Desc) (l1 : List build_split) (x1 : Int) : Option ((List UInt8) × Int) :=
  br (decide (x1 < (len split1)))
  (ob (ix l1 x1) fun b1 =>
  chk (fits out1.length [b1.Desc].length 16) <|
  L1 (out1 ++ [b1.Desc]) l1 (wi (x1 + (1 : Int))))
  (ob (desc_Table out1) fun table1 =>
  some (table1, (0 : Int)))

def build_SplitTableL1 (split1 : (List build_split)) : Nat → (List Desc) → (List build_split) → Int → Option ((List UInt8) × Int)
  | 0, _, _, _ => none
  | nf + 1, out1, l1, x1 => build_SplitTableL1B split1 (build_SplitTableL1 split1 nf) out1 l1 x1

/-- build.SplitTable -/
def build_SplitTable (l : List Seg) : Option ((List UInt8) × Int) :=
  ob (build_buffer l) fun buffer1 =>
  ob (build_first [buffer1]) fun first1 =>
  br (first1 != (0 : Int))
  (some (([] : List UInt8), first1))
  (ob (build_chain_buildsplit l (fun x => build_SplitTable_1 x)) fun split1 =>
  build_SplitTableL1 split1 fuel [] split1 (0 : Int))

def kit_SamePutsL1B (ap0 : List Put) (b : List Put) (L1 : Int → Option Bool) (i1 : Int) : Option Bool :=
  br (decide (i1 < (len ap0)))
  (ob (ix ap0 i1) fun p1 =>
  ob (ix b i1) fun p3 =>
  br (p1 != p3)
  (some false)
  (L1 (wi (i1 + (1 : Int)))))
  (some true)

def kit_SamePutsL1 (ap0 : List Put) (b : List Put) : Nat → Int → Option Bool
  | 0, _ => none
  | nf + 1, i1 => kit_SamePutsL1B ap0 b (kit_SamePutsL1 ap0 b nf) i1

/-- dumbwaiterkit.SamePuts -/
def kit_SamePuts (ap0 : List Put) (b : List Put) : Option Bool :=
  br ((len ap0) != (len b))
  (some false)
  (kit_SamePutsL1 ap0 b fuel (0 : Int))

def kit_SamePackedL1B (ap0 : List PutPacked) (b : List PutPacked) (L1 : Int → Option Bool) (i1 : Int) : Option Bool :=
  br (decide (i1 < (len ap0)))
  (ob (ix ap0 i1) fun p1 =>
  ob (ix b i1) fun p3 =>
  br (p1 != p3)
  (some false)
  (L1 (wi (i1 + (1 : Int)))))
  (some true)

def kit_SamePackedL1 (ap0 : List PutPacked) (b : List PutPacked) : Nat → Int → Option Bool
  | 0, _ => none
  | nf + 1, i1 => kit_SamePackedL1B ap0 b (kit_SamePackedL1 ap0 b nf) i1

/-- dumbwaiterkit.SamePacked -/
def kit_SamePacked (ap0 : List PutPacked) (b : List PutPacked) : Option Bool :=
  br ((len ap0) != (len b))
  (some false)
  (kit_SamePackedL1 ap0 b fuel (0 : Int))

/-- dumbwaiterlaw09.lives -/
def law09zlives  : Option Bool :=
  ob (law09ztwo) fun two1 =>
  ob (build_Split [(3 : Int), (1 : Int)] two1) fun split1 =>
  ob (law09ztwo) fun two2 =>
  ob (build_Packed (Pos.mk (3 : Int) true) (4 : Int) (2 : Int) two2) fun packed1 =>
  br (split1.2 == (0 : Int))
  (ob (kit_SamePuts split1.1 [(Put.mk (3 : Int) (Desc.mk (100 : UInt64) (8 : UInt32) (1 : UInt16) (1 : UInt16))), (Put.mk (1 : Int) (Desc.mk (200 : UInt64) (4 : UInt32) (2 : UInt16) (0 : UInt16)))]) fun samepu1 =>
  br (samepu1)
  (br (packed1.2 == (0 : Int))
  (ob (kit_SamePacked packed1.1 [(PutPacked.mk (3 : Int) (Packed.mk (100 : UInt64) (8 : UInt32) (2 : UInt16) (129 : UInt16))), (PutPacked.mk (0 : Int) (Packed.mk (200 : UInt64) (4 : UInt32) (2 : UInt16) (32770 : UInt16)))]) fun samepa1 =>
  some samepa1)
  (some false))
  (some false))
  (some false)

/-- build.Needs -/
def build_Needs (l : List Seg) (table : Bool) : Option Int :=
  ob (seg_Check l) fun check1 =>
  br (check1 != (0 : Int))
  (some (0 : Int))
  (br ((len l) == (0 : Int))
  (some (0 : Int))
  (br (table)
  (some (1 : Int))
  (some (len l))))

def ref_get03L1B (b : List UInt8) (atp1 : Int) (L1 : UInt64 → Int → Option UInt64) (v1 : UInt64) (i1 : Int) : Option UInt64 :=
  br (decide (i1 ≥ (0 : Int)))
  (ob (ix b (wi (atp1 + i1))) fun y1 =>
  L1 (((256 : UInt64) * v1) + y1.toUInt64) (wi (i1 - (1 : Int))))
  (some v1)

def ref_get03L1 (b : List UInt8) (atp1 : Int) : Nat → UInt64 → Int → Option UInt64
  | 0, _, _ => none
  | nf + 1, v1, i1 => ref_get03L1B b atp1 (ref_get03L1 b atp1 nf) v1 i1

/-- dumbwaiterref03.get -/
def ref_get03 (b : List UInt8) (atp1 : Int) (np2 : Int) : Option UInt64 :=
  ref_get03L1 b atp1 fuel (0 : UInt64) (wi (np2 - (1 : Int)))

/-- dumbwaiterref03.Read -/
def ref_Read03 (b : List UInt8) : Option (Desc × Int) :=
  br ((len b) != (16 : Int))
  (some ((Desc.mk (0 : UInt64) (0 : UInt32) (0 : UInt16) (0 : UInt16)), (4 : Int)))
  (ob (ref_get03 b (0 : Int) (8 : Int)) fun get1 =>
  ob (ref_get03 b (8 : Int) (4 : Int)) fun get2 =>
  ob (ref_get03 b (12 : Int) (2 : Int)) fun get3 =>
  ob (ref_get03 b (14 : Int) (2 : Int)) fun get4 =>
  some ((Desc.mk get1 get2.toUInt32 get3.toUInt16 get4.toUInt16), (0 : Int)))

def ref_ReadTable03L1B (b : List UInt8) (L1 : (List Desc) → Int → Option ((List Desc) × Int)) (out1 : List Desc) (i1 : Int) : Option ((List Desc) × Int) :=
  br (decide (i1 < (len b)))
  (chk (decide (0 ≤ i1 ∧ i1 ≤ (wi (i1 + (16 : Int))) ∧ (wi (i1 + (16 : Int))) ≤ len b)) <|
  ob (ref_Read03 (sub b i1 (wi (i1 + (16 : Int))))) fun read1 =>
  chk (fits out1.length [read1.1].length 16) <|
  L1 (out1 ++ [read1.1]) (wi (i1 + (16 : Int))))
  (some (out1, (0 : Int)))

def ref_ReadTable03L1 (b : List UInt8) : Nat → (List Desc) → Int → Option ((List Desc) × Int)
  | 0, _, _ => none
  | nf + 1, out1, i1 => ref_ReadTable03L1B b (ref_ReadTable03L1 b nf) out1 i1

/-- dumbwaiterref03.ReadTable -/
def ref_ReadTable03 (b : List UInt8) : Option ((List Desc) × Int) :=
  br ((remi (len b) (16 : Int)) != (0 : Int))
  (some (([] : List Desc), (4 : Int)))
  (ref_ReadTable03L1 b fuel [] (0 : Int))

/-- desc.PackedBytes -/
def desc_PackedBytes (dp0 : Packed) : Option (List UInt8) :=
  ob (desc_raw_put (List.replicate 16 0) (0 : Int) (8 : Int) dp0.Addr) fun put1 =>
  ob (desc_raw_put put1 (8 : Int) (4 : Int) dp0.Len.toUInt64) fun put2 =>
  ob (desc_raw_put put2 (12 : Int) (2 : Int) dp0.ID.toUInt64) fun put3 =>
  ob (desc_raw_put put3 (14 : Int) (2 : Int) dp0.Flags.toUInt64) fun put4 =>
  chk (put4.length == 16) <|
  some put4

def build_PackedTableJ2 (x1 : Int) (L1 : (List UInt8) → Int → Option ((List UInt8) × Int)) (l1 : List UInt8) (m1 : Packed) : Option ((List UInt8) × Int) :=
  ob (desc_PackedBytes m1) fun packed1 =>
  chk (fits l1.length packed1.length 1) <|
  L1 (l1 ++ packed1) (wi (x1 + (1 : Int)))

def build_PackedTableL1B (l : List Seg) (L1 : (List UInt8) → Int → Option ((List UInt8) × Int)) (b1 : List UInt8) (x1 : Int) : Option ((List UInt8) × Int) :=
  br (decide (x1 < (len l)))
  (ob (ix l x1) fun s1 =>
  br (s1.Write)
  (build_PackedTableJ2 x1 L1 b1 (Packed.mk s1.At s1.Len (0 : UInt16) (2 : UInt16)))
  (build_PackedTableJ2 x1 L1 b1 (Packed.mk s1.At s1.Len (0 : UInt16) (0 : UInt16))))
  (some (b1, (0 : Int)))

def build_PackedTableL1 (l : List Seg) : Nat → (List UInt8) → Int → Option ((List UInt8) × Int)
  | 0, _, _ => none
  | nf + 1, b1, x1 => build_PackedTableL1B l (build_PackedTableL1 l nf) b1 x1

/-- build.PackedTable -/
def build_PackedTable (l : List Seg) : Option ((List UInt8) × Int) :=
  ob (build_buffer l) fun buffer1 =>
  ob (build_first [buffer1]) fun first1 =>
  br (first1 != (0 : Int))
  (some (([] : List UInt8), first1))
  (build_PackedTableL1 l fuel [] (0 : Int))

/-- dumbwaiterref03.ReadPacked -/
def ref_ReadPacked03 (b : List UInt8) : Option (Packed × Int) :=
  br ((len b) != (16 : Int))
  (some ((Packed.mk (0 : UInt64) (0 : UInt32) (0 : UInt16) (0 : UInt16)), (4 : Int)))
  (ob (ref_get03 b (0 : Int) (8 : Int)) fun get1 =>
  ob (ref_get03 b (8 : Int) (4 : Int)) fun get2 =>
  ob (ref_get03 b (12 : Int) (2 : Int)) fun get3 =>
  ob (ref_get03 b (14 : Int) (2 : Int)) fun get4 =>
  some ((Packed.mk get1 get2.toUInt32 get3.toUInt16 get4.toUInt16), (0 : Int)))

/-- dumbwaiterkit.Pick -/
def kit_Pick (np0 : Int) (m : Int) : Option Int :=
  br (decide (m < (1 : Int)))
  (some (0 : Int))
  (chk (!(m == 0)) <|
  br (decide ((remi np0 m) < (0 : Int)))
  (some (wi ((remi np0 m) + m)))
  (some (remi np0 m)))

/-- dumbwaiterlaw09.BuildTells$1 -/
def law09zBuildTells_1 (ip0 : Int) (f : UInt16) (arg2 : List Seg) : Option Bool :=
  ob (ix arg2 ip0) fun s1 =>
  br (((f &&& (2 : UInt16)) != (0 : UInt16)) == s1.Write)
  (br (((f &&& (1 : UInt16)) != (0 : UInt16)) == (decide ((wi (ip0 + (1 : Int))) < (len arg2))))
  (some ((f &&& (4 : UInt16)) == (0 : UInt16)))
  (some false))
  (some false)

/-- dumbwaiterref03.Avail -/
def ref_Avail03 (flags : UInt16) (wrap : Bool) : Option Bool :=
  br (((flags &&& (128 : UInt16)) != (0 : UInt16)) == wrap)
  (some (((flags &&& (32768 : UInt16)) != (0 : UInt16)) != wrap))
  (some false)

def law09zBuildTellsJ4 (m3 : List Seg) (m4 : Pos) (l4 : List PutPacked) (l5 : List UInt8) (i3 : Int) (L3 : (List Seg) → Pos → (List PutPacked) → (List UInt8) → Int → Option Bool) (readpa1 : (Packed × Int)) (w1 : UInt16) : Option Bool :=
  ob (ix m3 i3) fun s6 =>
  ob (ix m3 i3) fun s7 =>
  chk (!(readpa1.1 != (Packed.mk s6.At s7.Len (0 : UInt16) w1))) <|
  L3 m3 m4 l4 l5 (wi (i3 + (1 : Int)))

def law09zBuildTellsL3B (wrap : Bool) (pick1 : Int) (pick4 : Int) (L3 : (List Seg) → Pos → (List PutPacked) → (List UInt8) → Int → Option Bool) (m3 : List Seg) (m4 : Pos) (l4 : List PutPacked) (l5 : List UInt8) (i3 : Int) : Option Bool :=
  br (decide (i3 < (len m3)))
  (ob (ix l4 i3) fun p7 =>
  ob (ix l4 i3) fun p8 =>
  chk (!((wi ((64 : Int) + pick1)) == 0)) <|
  chk (!(p8.At != (remi (wi (m4.At + i3)) (wi ((64 : Int) + pick1))))) <|
  ob (ix m3 i3) fun s3 =>
  chk (!(p7.Desc.Addr != s3.At)) <|
  ob (ix m3 i3) fun s4 =>
  chk (!(p7.Desc.Len != s4.Len)) <|
  chk (!((i16 p7.Desc.ID) != pick4)) <|
  ob (law09zBuildTells_1 i3 p7.Desc.Flags m3) fun buildt2 =>
  chk (!((!buildt2))) <|
  ob (ref_Avail03 p7.Desc.Flags (wrap != (decide ((wi (m4.At + i3)) ≥ (wi ((64 : Int) + pick1)))))) fun avail1 =>
  chk (!((!avail1))) <|
  chk (decide (0 ≤ (wi ((16 : Int) * i3)) ∧ (wi ((16 : Int) * i3)) ≤ (wi ((wi ((16 : Int) * i3)) + (16 : Int))) ∧ (wi ((wi ((16 : Int) * i3)) + (16 : Int))) ≤ len l5)) <|
  ob (ref_ReadPacked03 (sub l5 (wi ((16 : Int) * i3)) (wi ((wi ((16 : Int) * i3)) + (16 : Int))))) fun readpa1 =>
  ob (ix m3 i3) fun s5 =>
  br (s5.Write)
  (law09zBuildTellsJ4 m3 m4 l4 l5 i3 L3 readpa1 (2 : UInt16))
  (law09zBuildTellsJ4 m3 m4 l4 l5 i3 L3 readpa1 (0 : UInt16)))
  (some true)

def law09zBuildTellsL3 (wrap : Bool) (pick1 : Int) (pick4 : Int) : Nat → (List Seg) → Pos → (List PutPacked) → (List UInt8) → Int → Option Bool
  | 0, _, _, _, _, _ => none
  | nf + 1, m3, m4, l4, l5, i3 => law09zBuildTellsL3B wrap pick1 pick4 (law09zBuildTellsL3 wrap pick1 pick4 nf) m3 m4 l4 l5 i3

def law09zBuildTellsL2B (id : Int) (atp3 : Int) (wrap : Bool) (pick1 : Int) (L2 : (List Seg) → (List Int) → (List Put) → (List Desc) → Int → Option Bool) (m2 : List Seg) (l1 : List Int) (l2 : List Put) (l3 : List Desc) (i2 : Int) : Option Bool :=
  br (decide (i2 < (len m2)))
  (ob (ix l2 i2) fun p1 =>
  ob (ix l2 i2) fun p2 =>
  ob (ix l1 i2) fun y1 =>
  chk (!(p2.At != y1)) <|
  ob (ix m2 i2) fun s1 =>
  chk (!(p1.Desc.Addr != s1.At)) <|
  ob (ix m2 i2) fun s2 =>
  chk (!(p1.Desc.Len != s2.Len)) <|
  ob (law09zBuildTells_1 i2 p1.Desc.Flags m2) fun buildt1 =>
  chk (!((!buildt1))) <|
  ob (ix l3 i2) fun d1 =>
  chk (!(d1.Addr != p1.Desc.Addr)) <|
  ob (ix l3 i2) fun d2 =>
  chk (!(d2.Len != p1.Desc.Len)) <|
  ob (ix l3 i2) fun d3 =>
  chk (!(d3.Flags != p1.Desc.Flags)) <|
  br (decide ((wi (i2 + (1 : Int))) < (len m2)))
  (ob (ix l1 (wi (i2 + (1 : Int)))) fun y2 =>
  chk (!((i16 p1.Desc.Next) != y2)) <|
  ob (ix l3 i2) fun d4 =>
  chk (!((i16 d4.Next) != (wi (i2 + (1 : Int))))) <|
  br ((wi (i2 + (1 : Int))) == (len m2))
  (ob (ix l3 i2) fun d5 =>
  chk (!((p1.Desc.Next + d5.Next) != (0 : UInt16))) <|
  L2 m2 l1 l2 l3 (wi (i2 + (1 : Int))))
  (L2 m2 l1 l2 l3 (wi (i2 + (1 : Int)))))
  (br ((wi (i2 + (1 : Int))) == (len m2))
  (ob (ix l3 i2) fun d6 =>
  chk (!((p1.Desc.Next + d6.Next) != (0 : UInt16))) <|
  L2 m2 l1 l2 l3 (wi (i2 + (1 : Int))))
  (L2 m2 l1 l2 l3 (wi (i2 + (1 : Int))))))
  (ob (kit_Pick atp3 (wi ((64 : Int) + pick1))) fun pick3 =>
  ob (kit_Pick id (wi ((64 : Int) + pick1))) fun pick4 =>
  ob (build_Packed (Pos.mk pick3 wrap) (wi ((64 : Int) + pick1)) pick4 m2) fun packed1 =>
  ob (build_PackedTable m2) fun packed2 =>
  chk (!(packed1.2 != (0 : Int))) <|
  chk (!(packed2.2 != (0 : Int))) <|
  chk (!((len packed1.1) != (len m2))) <|
  chk (!((len packed2.1) != (wi ((16 : Int) * (len m2))))) <|
  law09zBuildTellsL3 wrap pick1 pick4 fuel m2 (Pos.mk pick3 wrap) packed1.1 packed2.1 (0 : Int))

def law09zBuildTellsL2 (id : Int) (atp3 : Int) (wrap : Bool) (pick1 : Int) : Nat → (List Seg) → (List Int) → (List Put) → (List Desc) → Int → Option Bool
  | 0, _, _, _, _, _ => none
  | nf + 1, m2, l1, l2, l3, i2 => law09zBuildTellsL2B id atp3 wrap pick1 (law09zBuildTellsL2 id atp3 wrap pick1 nf) m2 l1 l2 l3 i2

def law09zBuildTellsL1B (id : Int) (atp3 : Int) (first : Int) (wrap : Bool) (pick1 : Int) (L1 : (List Seg) → (List Int) → Int → Option Bool) (m1 : List Seg) (ids1 : List Int) (i1 : Int) : Option Bool :=
  br (decide (i1 < (len m1)))
  (ob (kit_Pick first (wi ((64 : Int) + pick1))) fun pick2 =>
  chk (fits ids1.length [remi (wi (pick2 + (wi (i1 * (5 : Int))))) (1000 : Int)].length 8) <|
  L1 m1 (ids1 ++ [remi (wi (pick2 + (wi (i1 * (5 : Int))))) (1000 : Int)]) (wi (i1 + (1 : Int))))
  (ob (build_Split ids1 m1) fun split1 =>
  ob (build_SplitTable m1) fun splitt1 =>
  ob (ref_ReadTable03 splitt1.1) fun readta1 =>
  chk (!(split1.2 != (0 : Int))) <|
  chk (!(splitt1.2 != (0 : Int))) <|
  chk (!(readta1.2 != (0 : Int))) <|
  chk (!((len split1.1) != (len m1))) <|
  chk (!((len readta1.1) != (len m1))) <|
  ob (build_Needs m1 false) fun needs2 =>
  chk (!(needs2 != (len m1))) <|
  law09zBuildTellsL2 id atp3 wrap pick1 fuel m1 ids1 split1.1 readta1.1 (0 : Int))

def law09zBuildTellsL1 (id : Int) (atp3 : Int) (first : Int) (wrap : Bool) (pick1 : Int) : Nat → (List Seg) → (List Int) → Int → Option Bool
  | 0, _, _, _ => none
  | nf + 1, m1, ids1, i1 => law09zBuildTellsL1B id atp3 first wrap pick1 (law09zBuildTellsL1 id atp3 first wrap pick1 nf) m1 ids1 i1

/-- dumbwaiterlaw09.BuildTells -/
def law09zBuildTells (l : List Seg) (size : Int) (id : Int) (atp3 : Int) (first : Int) (wrap : Bool) : Option Bool :=
  ob (law09zlives) fun lives1 =>
  chk (!((!lives1))) <|
  br (decide ((len l) > (100 : Int)))
  (some true)
  (ob (build_Needs l true) fun needs1 =>
  br (needs1 == (0 : Int))
  (some true)
  (ob (kit_Pick size (100 : Int)) fun pick1 =>
  law09zBuildTellsL1 id atp3 first wrap pick1 fuel l [] (0 : Int)))

end Go.Proofs.Ytihcimjfabdafaa
