/- What the functions reckon, as plain words. No statement of the seat is proved here; no condition. -/
import Derived.Test.YtgpggnhifkkfbaaTy
namespace Go.Proofs.Ytgpggnhifkkfbaa

/-- frame.word -/
def frame_word (b : List UInt8) : Option UInt16 :=
  ob (ix b (0 : Int)) fun y1 =>
  ob (ix b (1 : Int)) fun y2 =>
  some ((shl16 y1.toUInt16 ((8 : UInt64).toNat)) ||| y2.toUInt16)

def frame_SumL3B  (L3 : UInt64 → Option UInt16) (s3 : UInt64) : Option UInt16 :=
  br ((shr64 s3 ((16 : UInt64).toNat)) != (0 : UInt64))
  (L3 ((shr64 s3 ((16 : UInt64).toNat)) + (s3 &&& (65535 : UInt64))))
  (some (~~~s3.toUInt16))

def frame_SumL3  : Nat → UInt64 → Option UInt16
  | 0, _ => none
  | nf + 1, s3 => frame_SumL3B (frame_SumL3 nf) s3

def frame_SumJ2  (s2 : UInt64) : Option UInt16 :=
  frame_SumL3 fuel s2

def frame_SumL1B  (L1 : (List UInt8) → UInt64 → Option UInt16) (b1 : List UInt8) (s1 : UInt64) : Option UInt16 :=
  br (decide ((len b1) > (1 : Int)))
  (ob (frame_word b1) fun word1 =>
  chk (decide (0 ≤ (2 : Int) ∧ (2 : Int) ≤ (len b1) ∧ (len b1) ≤ len b1)) <|
  L1 (sub b1 (2 : Int) (len b1)) (s1 + word1.toUInt64))
  (br ((len b1) == (1 : Int))
  (ob (ix b1 (0 : Int)) fun y1 =>
  frame_SumJ2 (s1 + (shl64 y1.toUInt64 ((8 : UInt64).toNat))))
  (frame_SumJ2 s1))

def frame_SumL1  : Nat → (List UInt8) → UInt64 → Option UInt16
  | 0, _, _ => none
  | nf + 1, b1, s1 => frame_SumL1B (frame_SumL1 nf) b1 s1

/-- frame.Sum -/
def frame_Sum (b : List UInt8) : Option UInt16 :=
  frame_SumL1 fuel b (0 : UInt64)

/-- dumbwaiterkit.Own -/
def kit_Own (b : List UInt8) : Option (List UInt8) :=
  chk (fits ([] : List UInt8).length b.length 1) <|
  some b

/-- frame.Check -/
def frame_Check (f : Frame) : Option Int :=
  br (decide (f.Vlan < ((-1) : Int)))
  (some (2 : Int))
  (br (decide (f.Vlan > (4095 : Int)))
  (some (2 : Int))
  (br (f.Type_ == (33024 : UInt16))
  (some (2 : Int))
  (br (decide ((len f.Data) > (1500 : Int)))
  (some (2 : Int))
  (some (0 : Int)))))

def slices_Grow_bytebyten0J1 (np1 : Int)  : Option (List UInt8) :=
  br (decide ((wi (np1 - (wi ((0 : Int) - (0 : Int))))) > (0 : Int)))
  (chk (decide (0 ≤ (wi (np1 - (wi ((0 : Int) - (0 : Int))))) ∧ (1 : Int) * (wi (np1 - (wi ((0 : Int) - (0 : Int))))) ≤ 140737488355328)) <|
  chk (decide (0 ≤ (0 : Int) ∧ (0 : Int) ≤ len (List.replicate (wi (np1 - (wi ((0 : Int) - (0 : Int))))).toNat (0 : UInt8)))) <|
  some ((List.replicate (wi (np1 - (wi ((0 : Int) - (0 : Int))))).toNat (0 : UInt8)).take (0 : Int).toNat))
  (some ([] : List UInt8))

/-- slices.Grow[[]byte,byte] -/
def slices_Grow_bytebyten0 (np1 : Int) : Option (List UInt8) :=
  chk (!(decide (np1 < (0 : Int)))) <|
  slices_Grow_bytebyten0J1 np1

def slices_Concat_bytebyteJ2 (x1 : Int) (L1 : Int → Int → Option (List UInt8)) (size2 : Int) : Option (List UInt8) :=
  L1 size2 (wi (x1 + (1 : Int)))

def slices_Concat_bytebyteJ3 (size1 : Int) (x1 : Int) (L1 : Int → Int → Option (List UInt8)) (y1 : List UInt8)  : Option (List UInt8) :=
  slices_Concat_bytebyteJ2 x1 L1 (wi (size1 + (len y1)))

def slices_Concat_bytebyteL4B (slices : List (List UInt8)) (L4 : (List UInt8) → Int → Option (List UInt8)) (newslice1 : List UInt8) (x2 : Int) : Option (List UInt8) :=
  br (decide (x2 < (len slices)))
  (ob (ix slices x2) fun y2 =>
  chk (fits newslice1.length y2.length 1) <|
  L4 (newslice1 ++ y2) (wi (x2 + (1 : Int))))
  (some newslice1)

def slices_Concat_bytebyteL4 (slices : List (List UInt8)) : Nat → (List UInt8) → Int → Option (List UInt8)
  | 0, _, _ => none
  | nf + 1, newslice1, x2 => slices_Concat_bytebyteL4B slices (slices_Concat_bytebyteL4 slices nf) newslice1 x2

def slices_Concat_bytebyteL1B (slices : List (List UInt8)) (L1 : Int → Int → Option (List UInt8)) (size1 : Int) (x1 : Int) : Option (List UInt8) :=
  br (decide (x1 < (len slices)))
  (ob (ix slices x1) fun y1 =>
  chk (!(decide ((wi (size1 + (len y1))) < (0 : Int)))) <|
  slices_Concat_bytebyteJ3 size1 x1 L1 y1)
  (ob (slices_Grow_bytebyten0 size1) fun growby1 =>
  slices_Concat_bytebyteL4 slices fuel growby1 (0 : Int))

def slices_Concat_bytebyteL1 (slices : List (List UInt8)) : Nat → Int → Int → Option (List UInt8)
  | 0, _, _ => none
  | nf + 1, size1, x1 => slices_Concat_bytebyteL1B slices (slices_Concat_bytebyteL1 slices nf) size1 x1

/-- slices.Concat[[]byte,byte] -/
def slices_Concat_bytebyte (slices : List (List UInt8)) : Option (List UInt8) :=
  slices_Concat_bytebyteL1 slices fuel (0 : Int) (0 : Int)

def frame_BytesJ1 (f : Frame) (b2 : List UInt8) : Option ((List UInt8) × Int) :=
  chk (fits b2.length [(shr16 f.Type_ ((8 : UInt64).toNat)).toUInt8, f.Type_.toUInt8].length 1) <|
  chk (fits (b2 ++ [(shr16 f.Type_ ((8 : UInt64).toNat)).toUInt8, f.Type_.toUInt8]).length f.Data.length 1) <|
  some ((b2 ++ [(shr16 f.Type_ ((8 : UInt64).toNat)).toUInt8, f.Type_.toUInt8]) ++ f.Data, (0 : Int))

/-- frame.Bytes -/
def frame_Bytes (f : Frame) : Option ((List UInt8) × Int) :=
  ob (frame_Check f) fun check1 =>
  br (check1 != (0 : Int))
  (some (([] : List UInt8), check1))
  (ob (slices_Concat_bytebyte [[f.Dst.a0, f.Dst.a1, f.Dst.a2, f.Dst.a3, f.Dst.a4, f.Dst.a5], [f.Src.a0, f.Src.a1, f.Src.a2, f.Src.a3, f.Src.a4, f.Src.a5]]) fun concat1 =>
  br (decide (f.Vlan ≥ (0 : Int)))
  (chk (fits concat1.length [(129 : UInt8), (0 : UInt8), u8 (shri f.Vlan ((8 : UInt64).toNat)), u8 f.Vlan].length 1) <|
  frame_BytesJ1 f (concat1 ++ [(129 : UInt8), (0 : UInt8), u8 (shri f.Vlan ((8 : UInt64).toNat)), u8 f.Vlan]))
  (frame_BytesJ1 f concat1))

def law23zlivesL1B  (L1 : (A6 UInt8) → (A6 UInt8) → Int → UInt16 → (List UInt8) → Int → Option Bool) (Dst1 : A6 UInt8) (Src1 : A6 UInt8) (Vlan1 : Int) (Type1 : UInt16) (Data1 : List UInt8) (i1 : Int) : Option Bool :=
  br (decide (i1 < (6 : Int)))
  (chk (decide (0 ≤ i1 ∧ i1 < (6 : Int))) <|
  chk (decide (0 ≤ i1 ∧ i1 < (6 : Int))) <|
  L1 (Dst1.st i1.toNat (255 : UInt8)) Src1 Vlan1 Type1 Data1 (wi (i1 + (1 : Int))))
  (ob (frame_Bytes (Frame.mk Dst1 Src1 Vlan1 Type1 Data1)) fun bytes1 =>
  br (bytes1.2 == (0 : Int))
  (br ((len bytes1.1) == (18 : Int))
  (chk (decide (0 ≤ (12 : Int) ∧ (12 : Int) ≤ (len bytes1.1) ∧ (len bytes1.1) ≤ len bytes1.1)) <|
  br ((sub bytes1.1 (12 : Int) (len bytes1.1)) == ([129, 0, 0, 5, 8, 0] : List UInt8))
  (ob (frame_Sum [(0 : UInt8), (1 : UInt8), (242 : UInt8), (3 : UInt8), (244 : UInt8), (245 : UInt8), (246 : UInt8), (247 : UInt8)]) fun sum1 =>
  some (sum1 == (8717 : UInt16)))
  (some false))
  (some false))
  (some false))

def law23zlivesL1  : Nat → (A6 UInt8) → (A6 UInt8) → Int → UInt16 → (List UInt8) → Int → Option Bool
  | 0, _, _, _, _, _, _ => none
  | nf + 1, Dst1, Src1, Vlan1, Type1, Data1, i1 => law23zlivesL1B (law23zlivesL1 nf) Dst1 Src1 Vlan1 Type1 Data1 i1

/-- dumbwaiterlaw23.lives -/
def law23zlives  : Option Bool :=
  law23zlivesL1 fuel (A6.mk (0 : UInt8) (0 : UInt8) (0 : UInt8) (0 : UInt8) (0 : UInt8) (0 : UInt8)) (A6.mk (1 : UInt8) (2 : UInt8) (3 : UInt8) (4 : UInt8) (5 : UInt8) (6 : UInt8)) (5 : Int) (2048 : UInt16) ([] : List UInt8) (0 : Int)

/-- dumbwaiterkit.Pick -/
def kit_Pick (np0 : Int) (m : Int) : Option Int :=
  br (decide (m < (1 : Int)))
  (some (0 : Int))
  (chk (!(m == 0)) <|
  br (decide ((remi np0 m) < (0 : Int)))
  (some (wi ((remi np0 m) + m)))
  (some (remi np0 m)))

def law23zFrameSumsJ1 (turn : Int) (sum1 : UInt16) (even1 : List UInt8) : Option Bool :=
  ob (kit_Pick turn (wi ((quoi (len even1) (2 : Int)) + (1 : Int)))) fun pick1 =>
  chk (decide (0 ≤ (wi ((2 : Int) * pick1)) ∧ (wi ((2 : Int) * pick1)) ≤ (len even1) ∧ (len even1) ≤ len even1)) <|
  ob (kit_Own (sub even1 (wi ((2 : Int) * pick1)) (len even1))) fun own2 =>
  chk (decide (0 ≤ (0 : Int) ∧ (0 : Int) ≤ (wi ((2 : Int) * pick1)) ∧ (wi ((2 : Int) * pick1)) ≤ len even1)) <|
  chk (fits own2.length (sub even1 (0 : Int) (wi ((2 : Int) * pick1))).length 1) <|
  chk (decide (0 ≤ (0 : Int) ∧ (0 : Int) ≤ (wi ((2 : Int) * pick1)) ∧ (wi ((2 : Int) * pick1)) ≤ len even1)) <|
  ob (kit_Own (sub even1 (0 : Int) (wi ((2 : Int) * pick1)))) fun own3 =>
  chk (fits own3.length [(0 : UInt8), (0 : UInt8)].length 1) <|
  chk (decide (0 ≤ (wi ((2 : Int) * pick1)) ∧ (wi ((2 : Int) * pick1)) ≤ (len even1) ∧ (len even1) ≤ len even1)) <|
  chk (fits (own3 ++ [(0 : UInt8), (0 : UInt8)]).length (sub even1 (wi ((2 : Int) * pick1)) (len even1)).length 1) <|
  ob (kit_Own even1) fun own4 =>
  chk (fits own4.length [(shr16 sum1 ((8 : UInt64).toNat)).toUInt8, sum1.toUInt8].length 1) <|
  ob (frame_Sum even1) fun sum2 =>
  chk (sum2 == sum1) <|
  ob (frame_Sum (own2 ++ (sub even1 (0 : Int) (wi ((2 : Int) * pick1))))) fun sum3 =>
  chk (sum3 == sum1) <|
  ob (frame_Sum ((own3 ++ [(0 : UInt8), (0 : UInt8)]) ++ (sub even1 (wi ((2 : Int) * pick1)) (len even1)))) fun sum4 =>
  chk (sum4 == sum1) <|
  ob (frame_Sum (own4 ++ [(shr16 sum1 ((8 : UInt64).toNat)).toUInt8, sum1.toUInt8])) fun sum5 =>
  chk (sum5 == (0 : UInt16)) <|
  some true

/-- dumbwaiterlaw23.FrameSums -/
def law23zFrameSums (b : List UInt8) (turn : Int) : Option Bool :=
  ob (law23zlives) fun lives1 =>
  chk (!((!lives1))) <|
  br (decide ((len b) > (3000 : Int)))
  (some true)
  (ob (frame_Sum b) fun sum1 =>
  ob (kit_Own b) fun own1 =>
  br ((remi (len own1) (2 : Int)) == (1 : Int))
  (chk (fits own1.length [(0 : UInt8)].length 1) <|
  law23zFrameSumsJ1 turn sum1 (own1 ++ [(0 : UInt8)]))
  (law23zFrameSumsJ1 turn sum1 own1))

/-- slices.Clone[[]byte,byte] -/
def slices_Clone_bytebyte (sp0 : List UInt8) : Option (List UInt8) :=
  chk (fits ([] : List UInt8).length sp0.length 1) <|
  some sp0

/-- frame.Fill -/
def frame_Fill (b : List UInt8) (hp1 : Hdr) : Option ((List UInt8) × Int) :=
  br ((hp1.Flags &&& (1 : UInt8)) == (0 : UInt8))
  (ob (slices_Clone_bytebyte b) fun cloneb1 =>
  some (cloneb1, (0 : Int)))
  (br (decide ((i16 hp1.Start) > (len b)))
  (some (([] : List UInt8), (4 : Int)))
  (br (decide ((wi ((wi ((i16 hp1.Start) + (i16 hp1.Off))) + (2 : Int))) > (len b)))
  (some (([] : List UInt8), (4 : Int)))
  (ob (slices_Clone_bytebyte b) fun cloneb2 =>
  chk (decide (0 ≤ (i16 hp1.Start) ∧ (i16 hp1.Start) ≤ (len cloneb2) ∧ (len cloneb2) ≤ len cloneb2)) <|
  ob (frame_Sum (sub cloneb2 (i16 hp1.Start) (len cloneb2))) fun sum1 =>
  ob (ix cloneb2 (wi ((i16 hp1.Start) + (i16 hp1.Off)))) fun y1 =>
  ob (ix (cloneb2.set (wi ((i16 hp1.Start) + (i16 hp1.Off))).toNat ((shr16 sum1 ((8 : UInt64).toNat)).toUInt8)) (wi ((wi ((i16 hp1.Start) + (i16 hp1.Off))) + (1 : Int)))) fun y2 =>
  some ((cloneb2.set (wi ((i16 hp1.Start) + (i16 hp1.Off))).toNat ((shr16 sum1 ((8 : UInt64).toNat)).toUInt8)).set (wi ((wi ((i16 hp1.Start) + (i16 hp1.Off))) + (1 : Int))).toNat sum1.toUInt8, (0 : Int)))))

def law23zFrameFillsL1B (pick1 : Int) (pick2 : Int) (own3 : (List UInt8)) (fill3 : ((List UInt8) × Int)) (L1 : Int → Option Bool) (i1 : Int) : Option Bool :=
  br (decide (i1 < (len ((own3.set (wi ((wi ((2 : Int) * pick1)) + (wi ((2 : Int) * pick2)))).toNat (0 : UInt8)).set (wi ((wi ((wi ((2 : Int) * pick1)) + (wi ((2 : Int) * pick2)))) + (1 : Int))).toNat (0 : UInt8)))))
  (br (i1 != (wi ((wi ((2 : Int) * pick1)) + (wi ((2 : Int) * pick2)))))
  (br (i1 != (wi ((wi ((wi ((2 : Int) * pick1)) + (wi ((2 : Int) * pick2)))) + (1 : Int))))
  (ob (ix fill3.1 i1) fun y3 =>
  ob (ix ((own3.set (wi ((wi ((2 : Int) * pick1)) + (wi ((2 : Int) * pick2)))).toNat (0 : UInt8)).set (wi ((wi ((wi ((2 : Int) * pick1)) + (wi ((2 : Int) * pick2)))) + (1 : Int))).toNat (0 : UInt8)) i1) fun y4 =>
  chk (!(y3 != y4)) <|
  L1 (wi (i1 + (1 : Int))))
  (L1 (wi (i1 + (1 : Int)))))
  (L1 (wi (i1 + (1 : Int)))))
  (chk (decide (0 ≤ (wi ((2 : Int) * pick1)) ∧ (wi ((2 : Int) * pick1)) ≤ (len fill3.1) ∧ (len fill3.1) ≤ len fill3.1)) <|
  ob (frame_Sum (sub fill3.1 (wi ((2 : Int) * pick1)) (len fill3.1))) fun sum1 =>
  chk (sum1 == (0 : UInt16)) <|
  some true)

def law23zFrameFillsL1 (pick1 : Int) (pick2 : Int) (own3 : (List UInt8)) (fill3 : ((List UInt8) × Int)) : Nat → Int → Option Bool
  | 0, _ => none
  | nf + 1, i1 => law23zFrameFillsL1B pick1 pick2 own3 fill3 (law23zFrameFillsL1 pick1 pick2 own3 fill3 nf) i1

/-- dumbwaiterlaw23.FrameFills -/
def law23zFrameFills (b : List UInt8) (start : Int) (off : Int) : Option Bool :=
  ob (law23zlives) fun lives1 =>
  chk (!((!lives1))) <|
  br (decide ((len b) > (3000 : Int)))
  (some true)
  (ob (kit_Own b) fun own1 =>
  ob (frame_Fill own1 (Hdr.mk (0 : UInt8) (5000 : UInt16) (9 : UInt16) (0 : UInt16))) fun fill1 =>
  chk (!(fill1.2 != (0 : Int))) <|
  chk (!(fill1.1 != b)) <|
  ob (kit_Pick start (100 : Int)) fun pick1 =>
  ob (kit_Pick off (100 : Int)) fun pick2 =>
  br (decide ((wi ((wi ((wi ((2 : Int) * pick1)) + (wi ((2 : Int) * pick2)))) + (2 : Int))) > (len b)))
  (ob (kit_Own b) fun own2 =>
  ob (frame_Fill own2 (Hdr.mk (1 : UInt8) (u16 (wi ((2 : Int) * pick1))) (u16 (wi ((2 : Int) * pick2))) (0 : UInt16))) fun fill2 =>
  chk (fill2.2 == (4 : Int)) <|
  some true)
  (ob (kit_Own b) fun own3 =>
  ob (ix own3 (wi ((wi ((2 : Int) * pick1)) + (wi ((2 : Int) * pick2))))) fun y1 =>
  ob (ix (own3.set (wi ((wi ((2 : Int) * pick1)) + (wi ((2 : Int) * pick2)))).toNat (0 : UInt8)) (wi ((wi ((wi ((2 : Int) * pick1)) + (wi ((2 : Int) * pick2)))) + (1 : Int)))) fun y2 =>
  ob (kit_Own ((own3.set (wi ((wi ((2 : Int) * pick1)) + (wi ((2 : Int) * pick2)))).toNat (0 : UInt8)).set (wi ((wi ((wi ((2 : Int) * pick1)) + (wi ((2 : Int) * pick2)))) + (1 : Int))).toNat (0 : UInt8))) fun own4 =>
  ob (frame_Fill own4 (Hdr.mk (1 : UInt8) (u16 (wi ((2 : Int) * pick1))) (u16 (wi ((2 : Int) * pick2))) (0 : UInt16))) fun fill3 =>
  chk (!(fill3.2 != (0 : Int))) <|
  chk (!((len fill3.1) != (len ((own3.set (wi ((wi ((2 : Int) * pick1)) + (wi ((2 : Int) * pick2)))).toNat (0 : UInt8)).set (wi ((wi ((wi ((2 : Int) * pick1)) + (wi ((2 : Int) * pick2)))) + (1 : Int))).toNat (0 : UInt8))))) <|
  law23zFrameFillsL1 pick1 pick2 own3 fill3 fuel (0 : Int)))

def frame_HdrOfL1B (hp0 : Hdr) (L1 : (List UInt8) → Int → Option (List UInt8)) (l1 : List UInt8) (x1 : Int) : Option (List UInt8) :=
  br (decide (x1 < (3 : Int)))
  (ob (ix [hp0.Start, hp0.Off, hp0.Buffers] x1) fun u1 =>
  ob (ix l1 (wi ((6 : Int) + (wi ((2 : Int) * x1))))) fun y2 =>
  ob (ix (l1.set (wi ((6 : Int) + (wi ((2 : Int) * x1)))).toNat u1.toUInt8) (wi ((7 : Int) + (wi ((2 : Int) * x1))))) fun y3 =>
  L1 ((l1.set (wi ((6 : Int) + (wi ((2 : Int) * x1)))).toNat u1.toUInt8).set (wi ((7 : Int) + (wi ((2 : Int) * x1)))).toNat ((shr16 u1 ((8 : UInt64).toNat)).toUInt8)) (wi (x1 + (1 : Int))))
  (some l1)

def frame_HdrOfL1 (hp0 : Hdr) : Nat → (List UInt8) → Int → Option (List UInt8)
  | 0, _, _ => none
  | nf + 1, l1, x1 => frame_HdrOfL1B hp0 (frame_HdrOfL1 hp0 nf) l1 x1

/-- frame.HdrOf -/
def frame_HdrOf (hp0 : Hdr) : Option (List UInt8) :=
  chk (decide (0 ≤ (12 : Int) ∧ (12 : Int) ≤ (12 : Int) ∧ (1 : Int) * (12 : Int) ≤ 140737488355328)) <|
  ob (ix (List.replicate (12 : Int).toNat (0 : UInt8)) (0 : Int)) fun y1 =>
  frame_HdrOfL1 hp0 fuel ((List.replicate (12 : Int).toNat (0 : UInt8)).set (0 : Int).toNat hp0.Flags) (0 : Int)

/-- frame.All -/
def frame_All (m : A6 UInt8) : Option Bool :=
  some (m == (A6.mk (255 : UInt8) (255 : UInt8) (255 : UInt8) (255 : UInt8) (255 : UInt8) (255 : UInt8)))

/-- frame.Group -/
def frame_Group (m : A6 UInt8) : Option Bool :=
  some ((m.a0 &&& (1 : UInt8)) == (1 : UInt8))

def slices_Equal_bytebyteL1B (s1 : List UInt8) (s2 : List UInt8) (L1 : Int → Option Bool) (x1 : Int) : Option Bool :=
  br (decide (x1 < (len s1)))
  (ob (ix s1 x1) fun y1 =>
  ob (ix s2 x1) fun y2 =>
  br (y1 != y2)
  (some false)
  (L1 (wi (x1 + (1 : Int)))))
  (some true)

def slices_Equal_bytebyteL1 (s1 : List UInt8) (s2 : List UInt8) : Nat → Int → Option Bool
  | 0, _ => none
  | nf + 1, x1 => slices_Equal_bytebyteL1B s1 s2 (slices_Equal_bytebyteL1 s1 s2 nf) x1

/-- slices.Equal[[]byte,byte] -/
def slices_Equal_bytebyte (s1 : List UInt8) (s2 : List UInt8) : Option Bool :=
  br ((len s1) != (len s2))
  (some false)
  (slices_Equal_bytebyteL1 s1 s2 fuel (0 : Int))

/-- frame.Same -/
def frame_Same (ap0 : Frame) (b : Frame) : Option Bool :=
  br (ap0.Dst == b.Dst)
  (br (ap0.Src == b.Src)
  (br (ap0.Vlan == b.Vlan)
  (br (ap0.Type_ == b.Type_)
  (ob (slices_Equal_bytebyte ap0.Data b.Data) fun equalb1 =>
  some equalb1)
  (some false))
  (some false))
  (some false))
  (some false)

/-- dumbwaiterlaw23.FrameApart -/
def law23zFrameApart (f : Frame) (g : Frame) (hp2 : Hdr) (ip3 : Hdr) : Option Bool :=
  ob (law23zlives) fun lives1 =>
  chk (!((!lives1))) <|
  br (decide ((len f.Data) > (3000 : Int)))
  (some true)
  (br (decide ((len g.Data) > (3000 : Int)))
  (some true)
  (ob (frame_Bytes f) fun bytes1 =>
  ob (frame_Bytes g) fun bytes2 =>
  ob (frame_HdrOf hp2) fun hdrof1 =>
  ob (frame_HdrOf ip3) fun hdrof2 =>
  chk (!((hdrof1 == hdrof2) != (hp2 == ip3))) <|
  ob (frame_All f.Dst) fun all1 =>
  br (all1)
  (ob (frame_Group f.Dst) fun group1 =>
  chk (!((!group1))) <|
  br (bytes1.2 != (0 : Int))
  (ob (frame_Check f) fun check1 =>
  chk (bytes1.2 == check1) <|
  ob (frame_Check g) fun check2 =>
  chk (bytes2.2 == check2) <|
  some true)
  (br (bytes2.2 != (0 : Int))
  (ob (frame_Check f) fun check3 =>
  chk (bytes1.2 == check3) <|
  ob (frame_Check g) fun check4 =>
  chk (bytes2.2 == check4) <|
  some true)
  (ob (frame_Same f g) fun same1 =>
  chk ((bytes1.1 == bytes2.1) == same1) <|
  chk (decide (0 ≤ (0 : Int) ∧ (0 : Int) ≤ (6 : Int) ∧ (6 : Int) ≤ len bytes1.1)) <|
  chk ((sub bytes1.1 (0 : Int) (6 : Int)) == [f.Dst.a0, f.Dst.a1, f.Dst.a2, f.Dst.a3, f.Dst.a4, f.Dst.a5]) <|
  chk (decide (0 ≤ (6 : Int) ∧ (6 : Int) ≤ (12 : Int) ∧ (12 : Int) ≤ len bytes1.1)) <|
  chk ((sub bytes1.1 (6 : Int) (12 : Int)) == [f.Src.a0, f.Src.a1, f.Src.a2, f.Src.a3, f.Src.a4, f.Src.a5]) <|
  some true)))
  (br (bytes1.2 != (0 : Int))
  (ob (frame_Check f) fun check5 =>
  chk (bytes1.2 == check5) <|
  ob (frame_Check g) fun check6 =>
  chk (bytes2.2 == check6) <|
  some true)
  (br (bytes2.2 != (0 : Int))
  (ob (frame_Check f) fun check7 =>
  chk (bytes1.2 == check7) <|
  ob (frame_Check g) fun check8 =>
  chk (bytes2.2 == check8) <|
  some true)
  (ob (frame_Same f g) fun same2 =>
  chk ((bytes1.1 == bytes2.1) == same2) <|
  chk (decide (0 ≤ (0 : Int) ∧ (0 : Int) ≤ (6 : Int) ∧ (6 : Int) ≤ len bytes1.1)) <|
  chk ((sub bytes1.1 (0 : Int) (6 : Int)) == [f.Dst.a0, f.Dst.a1, f.Dst.a2, f.Dst.a3, f.Dst.a4, f.Dst.a5]) <|
  chk (decide (0 ≤ (6 : Int) ∧ (6 : Int) ≤ (12 : Int) ∧ (12 : Int) ≤ len bytes1.1)) <|
  chk ((sub bytes1.1 (6 : Int) (12 : Int)) == [f.Src.a0, f.Src.a1, f.Src.a2, f.Src.a3, f.Src.a4, f.Src.a5]) <|
  some true)))))

def frame_ReadJ1  (Dst1 : A6 UInt8) (Src1 : A6 UInt8) (Vlan1 : Int) (Type1 : UInt16) (Data1 : List UInt8) (Dst2 : A6 UInt8) (Src2 : A6 UInt8) (Vlan2 : Int) (Type2 : UInt16) (Data2 : List UInt8) (rest1 : List UInt8) : Option (Frame × Int) :=
  ob (frame_word rest1) fun word2 =>
  chk (decide (0 ≤ (2 : Int) ∧ (2 : Int) ≤ (len rest1) ∧ (len rest1) ≤ len rest1)) <|
  ob (slices_Clone_bytebyte (sub rest1 (2 : Int) (len rest1))) fun cloneb1 =>
  ob (frame_Check (Frame.mk Dst2 Src2 Vlan2 word2 cloneb1)) fun check1 =>
  br (check1 != (0 : Int))
  (some ((Frame.mk (A6.mk (0 : UInt8) (0 : UInt8) (0 : UInt8) (0 : UInt8) (0 : UInt8) (0 : UInt8)) (A6.mk (0 : UInt8) (0 : UInt8) (0 : UInt8) (0 : UInt8) (0 : UInt8) (0 : UInt8)) (0 : Int) (0 : UInt16) ([] : List UInt8)), (4 : Int)))
  (some ((Frame.mk Dst2 Src2 Vlan2 word2 cloneb1), (0 : Int)))

/-- frame.Read -/
def frame_Read (b : List UInt8) : Option (Frame × Int) :=
  br (decide ((len b) < (14 : Int)))
  (some ((Frame.mk (A6.mk (0 : UInt8) (0 : UInt8) (0 : UInt8) (0 : UInt8) (0 : UInt8) (0 : UInt8)) (A6.mk (0 : UInt8) (0 : UInt8) (0 : UInt8) (0 : UInt8) (0 : UInt8) (0 : UInt8)) (0 : Int) (0 : UInt16) ([] : List UInt8)), (4 : Int)))
  (chk (decide (0 ≤ (0 : Int) ∧ (0 : Int) ≤ (6 : Int) ∧ (6 : Int) ≤ len b)) <|
  chk (Nat.ble 6 (sub b (0 : Int) (6 : Int)).length) <|
  ob (A6.ofL ((sub b (0 : Int) (6 : Int)).take 6)) fun a1 =>
  chk (decide (0 ≤ (6 : Int) ∧ (6 : Int) ≤ (12 : Int) ∧ (12 : Int) ≤ len b)) <|
  chk (Nat.ble 6 (sub b (6 : Int) (12 : Int)).length) <|
  ob (A6.ofL ((sub b (6 : Int) (12 : Int)).take 6)) fun a2 =>
  chk (decide (0 ≤ (12 : Int) ∧ (12 : Int) ≤ (len b) ∧ (len b) ≤ len b)) <|
  ob (frame_word (sub b (12 : Int) (len b))) fun word1 =>
  br (word1 == (33024 : UInt16))
  (br (decide ((len (sub b (12 : Int) (len b))) < (6 : Int)))
  (some ((Frame.mk (A6.mk (0 : UInt8) (0 : UInt8) (0 : UInt8) (0 : UInt8) (0 : UInt8) (0 : UInt8)) (A6.mk (0 : UInt8) (0 : UInt8) (0 : UInt8) (0 : UInt8) (0 : UInt8) (0 : UInt8)) (0 : Int) (0 : UInt16) ([] : List UInt8)), (4 : Int)))
  (chk (decide (0 ≤ (2 : Int) ∧ (2 : Int) ≤ (len (sub b (12 : Int) (len b))) ∧ (len (sub b (12 : Int) (len b))) ≤ len (sub b (12 : Int) (len b)))) <|
  ob (frame_word (sub (sub b (12 : Int) (len b)) (2 : Int) (len (sub b (12 : Int) (len b))))) fun word3 =>
  chk (decide (0 ≤ (4 : Int) ∧ (4 : Int) ≤ (len (sub b (12 : Int) (len b))) ∧ (len (sub b (12 : Int) (len b))) ≤ len (sub b (12 : Int) (len b)))) <|
  frame_ReadJ1 (A6.mk (0 : UInt8) (0 : UInt8) (0 : UInt8) (0 : UInt8) (0 : UInt8) (0 : UInt8)) (A6.mk (0 : UInt8) (0 : UInt8) (0 : UInt8) (0 : UInt8) (0 : UInt8) (0 : UInt8)) (0 : Int) (0 : UInt16) ([] : List UInt8) a1 a2 (i16 word3) (0 : UInt16) ([] : List UInt8) (sub (sub b (12 : Int) (len b)) (4 : Int) (len (sub b (12 : Int) (len b))))))
  (frame_ReadJ1 (A6.mk (0 : UInt8) (0 : UInt8) (0 : UInt8) (0 : UInt8) (0 : UInt8) (0 : UInt8)) (A6.mk (0 : UInt8) (0 : UInt8) (0 : UInt8) (0 : UInt8) (0 : UInt8) (0 : UInt8)) (0 : Int) (0 : UInt16) ([] : List UInt8) a1 a2 ((-1) : Int) (0 : UInt16) ([] : List UInt8) (sub b (12 : Int) (len b))))

/-- dumbwaiterlaw23.FrameTags -/
def law23zFrameTags (f : Frame) (np1 : Int) : Option Bool :=
  ob (law23zlives) fun lives1 =>
  chk (!((!lives1))) <|
  br (decide ((len f.Data) > (3000 : Int)))
  (some true)
  (ob (frame_Bytes (Frame.mk f.Dst f.Src ((-1) : Int) f.Type_ f.Data)) fun bytes1 =>
  ob (kit_Pick np1 (4096 : Int)) fun pick1 =>
  ob (frame_Bytes (Frame.mk f.Dst f.Src pick1 f.Type_ f.Data)) fun bytes2 =>
  br (bytes1.2 != (0 : Int))
  (chk (bytes1.2 == (2 : Int)) <|
  chk (bytes2.2 == (2 : Int)) <|
  some true)
  (chk (!(bytes2.2 != (0 : Int))) <|
  chk (!((len bytes2.1) != (wi ((len bytes1.1) + (4 : Int))))) <|
  chk (decide (0 ≤ (0 : Int) ∧ (0 : Int) ≤ (12 : Int) ∧ (12 : Int) ≤ len bytes2.1)) <|
  chk (decide (0 ≤ (0 : Int) ∧ (0 : Int) ≤ (12 : Int) ∧ (12 : Int) ≤ len bytes1.1)) <|
  chk (!((sub bytes2.1 (0 : Int) (12 : Int)) != (sub bytes1.1 (0 : Int) (12 : Int)))) <|
  chk (decide (0 ≤ (16 : Int) ∧ (16 : Int) ≤ (len bytes2.1) ∧ (len bytes2.1) ≤ len bytes2.1)) <|
  chk (decide (0 ≤ (12 : Int) ∧ (12 : Int) ≤ (len bytes1.1) ∧ (len bytes1.1) ≤ len bytes1.1)) <|
  chk (!((sub bytes2.1 (16 : Int) (len bytes2.1)) != (sub bytes1.1 (12 : Int) (len bytes1.1)))) <|
  ob (ix bytes2.1 (12 : Int)) fun y1 =>
  chk (!(y1 != (129 : UInt8))) <|
  ob (ix bytes2.1 (13 : Int)) fun y2 =>
  chk (!(y2 != (0 : UInt8))) <|
  ob (ix bytes2.1 (14 : Int)) fun y3 =>
  ob (ix bytes2.1 (15 : Int)) fun y4 =>
  chk (!((wi ((wi ((i8 y3) * (256 : Int))) + (i8 y4))) != pick1)) <|
  ob (frame_Read bytes1.1) fun read1 =>
  ob (frame_Read bytes2.1) fun read2 =>
  chk (read1.2 == (0 : Int)) <|
  chk (read2.2 == (0 : Int)) <|
  ob (frame_Same read1.1 (Frame.mk f.Dst f.Src ((-1) : Int) f.Type_ f.Data)) fun same1 =>
  chk (same1) <|
  ob (frame_Same read2.1 (Frame.mk f.Dst f.Src pick1 f.Type_ f.Data)) fun same2 =>
  chk (same2) <|
  ob (frame_Same read1.1 read2.1) fun same3 =>
  chk ((!same3)) <|
  some true))

/-- frame.ReadHdr$1 -/
def frame_ReadHdr_1 (ip0 : Int) (arg1 : List UInt8) : Option UInt16 :=
  ob (ix arg1 ip0) fun y1 =>
  ob (ix arg1 (wi (ip0 + (1 : Int)))) fun y2 =>
  some (y1.toUInt16 ||| (shl16 y2.toUInt16 ((8 : UInt64).toNat)))

/-- frame.ReadHdr -/
def frame_ReadHdr (b : List UInt8) : Option (Hdr × Int) :=
  br (decide ((len b) < (12 : Int)))
  (some ((Hdr.mk (0 : UInt8) (0 : UInt16) (0 : UInt16) (0 : UInt16)), (4 : Int)))
  (ob (ix b (0 : Int)) fun y1 =>
  ob (frame_ReadHdr_1 (6 : Int) b) fun readhd1 =>
  ob (frame_ReadHdr_1 (8 : Int) b) fun readhd2 =>
  ob (frame_ReadHdr_1 (10 : Int) b) fun readhd3 =>
  some ((Hdr.mk y1 readhd1 readhd2 readhd3), (0 : Int)))

/-- dumbwaiterlaw23.FrameNames -/
def law23zFrameNames  : Option Bool :=
  ob (frame_Bytes (Frame.mk (A6.mk (0 : UInt8) (0 : UInt8) (0 : UInt8) (0 : UInt8) (0 : UInt8) (0 : UInt8)) (A6.mk (0 : UInt8) (0 : UInt8) (0 : UInt8) (0 : UInt8) (0 : UInt8) (0 : UInt8)) ((-1) : Int) (33024 : UInt16) ([] : List UInt8))) fun bytes1 =>
  chk (decide (0 ≤ (13 : Int) ∧ (13 : Int) ≤ (13 : Int) ∧ (1 : Int) * (13 : Int) ≤ 140737488355328)) <|
  ob (frame_Read (List.replicate (13 : Int).toNat (0 : UInt8))) fun read1 =>
  chk (decide (0 ≤ (11 : Int) ∧ (11 : Int) ≤ (11 : Int) ∧ (1 : Int) * (11 : Int) ≤ 140737488355328)) <|
  ob (frame_ReadHdr (List.replicate (11 : Int).toNat (0 : UInt8))) fun readhd1 =>
  ob (frame_ReadHdr [(1 : UInt8), (9 : UInt8), (9 : UInt8), (9 : UInt8), (9 : UInt8), (9 : UInt8), (2 : UInt8), (0 : UInt8), (3 : UInt8), (0 : UInt8), (4 : UInt8), (1 : UInt8)]) fun readhd2 =>
  ob (frame_Fill [(0 : UInt8), (1 : UInt8), (242 : UInt8), (3 : UInt8), (244 : UInt8), (245 : UInt8), (246 : UInt8), (247 : UInt8), (0 : UInt8), (0 : UInt8)] (Hdr.mk (1 : UInt8) (0 : UInt16) (8 : UInt16) (0 : UInt16))) fun fill1 =>
  ob (frame_Fill [(1 : UInt8), (2 : UInt8)] (Hdr.mk (1 : UInt8) (2 : UInt16) (0 : UInt16) (0 : UInt16))) fun fill2 =>
  ob (law23zlives) fun lives1 =>
  chk (lives1) <|
  chk (bytes1.2 == (2 : Int)) <|
  chk (read1.2 == (4 : Int)) <|
  chk (readhd1.2 == (4 : Int)) <|
  chk (readhd2.2 == (0 : Int)) <|
  chk (readhd2.1 == (Hdr.mk (1 : UInt8) (2 : UInt16) (3 : UInt16) (260 : UInt16))) <|
  chk (fill1.2 == (0 : Int)) <|
  chk ((len fill1.1) == (10 : Int)) <|
  ob (ix fill1.1 (8 : Int)) fun y1 =>
  chk (y1 == (34 : UInt8)) <|
  ob (ix fill1.1 (9 : Int)) fun y2 =>
  chk (y2 == (13 : UInt8)) <|
  chk (fill2.2 == (4 : Int)) <|
  ob (frame_Sum ([] : List UInt8)) fun sum1 =>
  chk (sum1 == (65535 : UInt16)) <|
  ob (frame_Group (A6.mk (1 : UInt8) (0 : UInt8) (0 : UInt8) (0 : UInt8) (0 : UInt8) (0 : UInt8))) fun group1 =>
  chk (group1) <|
  ob (frame_Group (A6.mk (2 : UInt8) (0 : UInt8) (0 : UInt8) (0 : UInt8) (0 : UInt8) (0 : UInt8))) fun group2 =>
  chk ((!group2)) <|
  ob (frame_All (A6.mk (255 : UInt8) (0 : UInt8) (0 : UInt8) (0 : UInt8) (0 : UInt8) (0 : UInt8))) fun all1 =>
  chk ((!all1)) <|
  some true

def law23zFrameBackJ2 (Dst1 : A6 UInt8) (Src1 : A6 UInt8) (Vlan1 : Int) (Type1 : UInt16) (Data1 : List UInt8) (bytes1 : ((List UInt8) × Int)) (read2 : (Frame × Int)) (size1 : Int) : Option Bool :=
  chk (!(read2.2 != (0 : Int))) <|
  ob (frame_Same (Frame.mk Dst1 Src1 Vlan1 Type1 Data1) read2.1) fun same1 =>
  chk (!((!same1))) <|
  chk (!((len bytes1.1) != size1)) <|
  ob (kit_Own bytes1.1) fun own2 =>
  chk (fits own2.length [(7 : UInt8)].length 1) <|
  ob (frame_Read (own2 ++ [(7 : UInt8)])) fun read3 =>
  br (read3.2 == (4 : Int))
  (br ((len Data1) == (1500 : Int))
  (some true)
  (chk (read3.2 == (0 : Int)) <|
  ob (frame_Same (Frame.mk Dst1 Src1 Vlan1 Type1 Data1) read3.1) fun same2 =>
  chk ((!same2)) <|
  some true))
  (chk (read3.2 == (0 : Int)) <|
  ob (frame_Same (Frame.mk Dst1 Src1 Vlan1 Type1 Data1) read3.1) fun same3 =>
  chk ((!same3)) <|
  some true)

def law23zFrameBackJ1  (Dst1 : A6 UInt8) (Src1 : A6 UInt8) (Vlan1 : Int) (Type1 : UInt16) (Data1 : List UInt8) (m1 : Hdr) (Dst2 : A6 UInt8) (Src2 : A6 UInt8) (Vlan2 : Int) (Type2 : UInt16) (Data2 : List UInt8) : Option Bool :=
  ob (frame_HdrOf m1) fun hdrof1 =>
  ob (frame_ReadHdr hdrof1) fun readhd1 =>
  chk (!(readhd1.2 != (0 : Int))) <|
  chk (!(readhd1.1 != m1)) <|
  ob (frame_HdrOf m1) fun hdrof2 =>
  chk (!((len hdrof2) != (12 : Int))) <|
  ob (frame_Bytes (Frame.mk Dst1 Src1 Vlan1 Type1 Data1)) fun bytes1 =>
  br (bytes1.2 != (0 : Int))
  (ob (frame_Check (Frame.mk Dst1 Src1 Vlan1 Type1 Data1)) fun check1 =>
  chk (bytes1.2 == check1) <|
  chk ((len bytes1.1) == (0 : Int)) <|
  some true)
  (ob (frame_Read bytes1.1) fun read2 =>
  br (decide (Vlan1 ≥ (0 : Int)))
  (law23zFrameBackJ2 Dst1 Src1 Vlan1 Type1 Data1 bytes1 read2 (wi ((wi ((14 : Int) + (len Data1))) + (4 : Int))))
  (law23zFrameBackJ2 Dst1 Src1 Vlan1 Type1 Data1 bytes1 read2 (wi ((14 : Int) + (len Data1)))))

/-- dumbwaiterlaw23.FrameBack -/
def law23zFrameBack (f : Frame) (hp1 : Hdr) (b : List UInt8) : Option Bool :=
  ob (law23zlives) fun lives1 =>
  chk (!((!lives1))) <|
  br (decide ((len f.Data) > (3000 : Int)))
  (some true)
  (br (decide ((len b) > (3000 : Int)))
  (some true)
  (ob (kit_Own b) fun own1 =>
  ob (frame_Read own1) fun read1 =>
  br (read1.2 == (0 : Int))
  (ob (frame_Bytes read1.1) fun bytes2 =>
  chk (!(bytes2.2 != (0 : Int))) <|
  chk (!(bytes2.1 != b)) <|
  law23zFrameBackJ1 f.Dst f.Src f.Vlan f.Type_ f.Data hp1 read1.1.Dst read1.1.Src read1.1.Vlan read1.1.Type_ read1.1.Data)
  (law23zFrameBackJ1 f.Dst f.Src f.Vlan f.Type_ f.Data hp1 read1.1.Dst read1.1.Src read1.1.Vlan read1.1.Type_ read1.1.Data)))

/-- dumbwaiterref23.Check -/
def ref_Check23 (f : Frame) : Option Int :=
  br (decide (f.Vlan < ((-1) : Int)))
  (some (2 : Int))
  (br (decide (f.Vlan > (4095 : Int)))
  (some (2 : Int))
  (br (f.Type_ == (33024 : UInt16))
  (some (2 : Int))
  (br (decide ((len f.Data) > (1500 : Int)))
  (some (2 : Int))
  (some (0 : Int)))))

def ref_Read23J2 (b : List UInt8) (Dst3 : A6 UInt8) (Src3 : A6 UInt8) (Vlan3 : Int) (Type3 : UInt16) (Data3 : List UInt8) (Dst4 : A6 UInt8) (Src4 : A6 UInt8) (Vlan4 : Int) (Type4 : UInt16) (Data4 : List UInt8) (at1 : Int) : Option (Frame × Int) :=
  ob (ix b at1) fun y5 =>
  ob (ix b (wi (at1 + (1 : Int)))) fun y6 =>
  chk (decide (0 ≤ (wi (at1 + (2 : Int))) ∧ (wi (at1 + (2 : Int))) ≤ (len b) ∧ (len b) ≤ len b)) <|
  chk (fits ([] : List UInt8).length (sub b (wi (at1 + (2 : Int))) (len b)).length 1) <|
  ob (ref_Check23 (Frame.mk Dst4 Src4 Vlan4 ((shl16 y5.toUInt16 ((8 : UInt64).toNat)) ||| y6.toUInt16) (sub b (wi (at1 + (2 : Int))) (len b)))) fun check1 =>
  br (check1 != (0 : Int))
  (some ((Frame.mk (A6.mk (0 : UInt8) (0 : UInt8) (0 : UInt8) (0 : UInt8) (0 : UInt8) (0 : UInt8)) (A6.mk (0 : UInt8) (0 : UInt8) (0 : UInt8) (0 : UInt8) (0 : UInt8) (0 : UInt8)) (0 : Int) (0 : UInt16) ([] : List UInt8)), (4 : Int)))
  (some ((Frame.mk Dst4 Src4 Vlan4 ((shl16 y5.toUInt16 ((8 : UInt64).toNat)) ||| y6.toUInt16) (sub b (wi (at1 + (2 : Int))) (len b))), (0 : Int)))

def ref_Read23L1B (b : List UInt8) (L1 : (A6 UInt8) → (A6 UInt8) → Int → UInt16 → (List UInt8) → (A6 UInt8) → (A6 UInt8) → Int → UInt16 → (List UInt8) → Int → Option (Frame × Int)) (Dst1 : A6 UInt8) (Src1 : A6 UInt8) (Vlan1 : Int) (Type1 : UInt16) (Data1 : List UInt8) (Dst2 : A6 UInt8) (Src2 : A6 UInt8) (Vlan2 : Int) (Type2 : UInt16) (Data2 : List UInt8) (i1 : Int) : Option (Frame × Int) :=
  br (decide (i1 < (6 : Int)))
  (ob (ix b i1) fun y1 =>
  ob (ix b (wi ((6 : Int) + i1))) fun y2 =>
  chk (decide (0 ≤ i1 ∧ i1 < (6 : Int))) <|
  chk (decide (0 ≤ i1 ∧ i1 < (6 : Int))) <|
  chk (decide (0 ≤ i1 ∧ i1 < (6 : Int))) <|
  chk (decide (0 ≤ i1 ∧ i1 < (6 : Int))) <|
  L1 Dst1 Src1 Vlan1 Type1 Data1 (Dst2.st i1.toNat y1) (Src2.st i1.toNat y2) Vlan2 Type2 Data2 (wi (i1 + (1 : Int))))
  (ob (ix b (12 : Int)) fun y3 =>
  br (y3 == (129 : UInt8))
  (ob (ix b (13 : Int)) fun y4 =>
  br (y4 == (0 : UInt8))
  (br (decide ((len b) < (18 : Int)))
  (some ((Frame.mk (A6.mk (0 : UInt8) (0 : UInt8) (0 : UInt8) (0 : UInt8) (0 : UInt8) (0 : UInt8)) (A6.mk (0 : UInt8) (0 : UInt8) (0 : UInt8) (0 : UInt8) (0 : UInt8) (0 : UInt8)) (0 : Int) (0 : UInt16) ([] : List UInt8)), (4 : Int)))
  (ob (ix b (14 : Int)) fun y7 =>
  br (decide (y7 > (15 : UInt8)))
  (some ((Frame.mk (A6.mk (0 : UInt8) (0 : UInt8) (0 : UInt8) (0 : UInt8) (0 : UInt8) (0 : UInt8)) (A6.mk (0 : UInt8) (0 : UInt8) (0 : UInt8) (0 : UInt8) (0 : UInt8) (0 : UInt8)) (0 : Int) (0 : UInt16) ([] : List UInt8)), (4 : Int)))
  (ob (ix b (14 : Int)) fun y8 =>
  ob (ix b (15 : Int)) fun y9 =>
  ref_Read23J2 b Dst1 Src1 Vlan1 Type1 Data1 Dst2 Src2 (ori (shli (i8 y8) ((8 : UInt64).toNat)) (i8 y9)) Type2 Data2 (16 : Int))))
  (ref_Read23J2 b Dst1 Src1 Vlan1 Type1 Data1 Dst2 Src2 Vlan2 Type2 Data2 (12 : Int)))
  (ob (ix b (12 : Int)) fun y10 =>
  ob (ix b (wi ((12 : Int) + (1 : Int)))) fun y11 =>
  chk (decide (0 ≤ (wi ((12 : Int) + (2 : Int))) ∧ (wi ((12 : Int) + (2 : Int))) ≤ (len b) ∧ (len b) ≤ len b)) <|
  chk (fits ([] : List UInt8).length (sub b (wi ((12 : Int) + (2 : Int))) (len b)).length 1) <|
  ob (ref_Check23 (Frame.mk Dst2 Src2 Vlan2 ((shl16 y10.toUInt16 ((8 : UInt64).toNat)) ||| y11.toUInt16) (sub b (wi ((12 : Int) + (2 : Int))) (len b)))) fun check2 =>
  br (check2 != (0 : Int))
  (some ((Frame.mk (A6.mk (0 : UInt8) (0 : UInt8) (0 : UInt8) (0 : UInt8) (0 : UInt8) (0 : UInt8)) (A6.mk (0 : UInt8) (0 : UInt8) (0 : UInt8) (0 : UInt8) (0 : UInt8) (0 : UInt8)) (0 : Int) (0 : UInt16) ([] : List UInt8)), (4 : Int)))
  (some ((Frame.mk Dst2 Src2 Vlan2 ((shl16 y10.toUInt16 ((8 : UInt64).toNat)) ||| y11.toUInt16) (sub b (wi ((12 : Int) + (2 : Int))) (len b))), (0 : Int)))))

def ref_Read23L1 (b : List UInt8) : Nat → (A6 UInt8) → (A6 UInt8) → Int → UInt16 → (List UInt8) → (A6 UInt8) → (A6 UInt8) → Int → UInt16 → (List UInt8) → Int → Option (Frame × Int)
  | 0, _, _, _, _, _, _, _, _, _, _, _ => none
  | nf + 1, Dst1, Src1, Vlan1, Type1, Data1, Dst2, Src2, Vlan2, Type2, Data2, i1 => ref_Read23L1B b (ref_Read23L1 b nf) Dst1 Src1 Vlan1 Type1 Data1 Dst2 Src2 Vlan2 Type2 Data2 i1

/-- dumbwaiterref23.Read -/
def ref_Read23 (b : List UInt8) : Option (Frame × Int) :=
  br (decide ((len b) < (14 : Int)))
  (some ((Frame.mk (A6.mk (0 : UInt8) (0 : UInt8) (0 : UInt8) (0 : UInt8) (0 : UInt8) (0 : UInt8)) (A6.mk (0 : UInt8) (0 : UInt8) (0 : UInt8) (0 : UInt8) (0 : UInt8) (0 : UInt8)) (0 : Int) (0 : UInt16) ([] : List UInt8)), (4 : Int)))
  (ref_Read23L1 b fuel (A6.mk (0 : UInt8) (0 : UInt8) (0 : UInt8) (0 : UInt8) (0 : UInt8) (0 : UInt8)) (A6.mk (0 : UInt8) (0 : UInt8) (0 : UInt8) (0 : UInt8) (0 : UInt8) (0 : UInt8)) (0 : Int) (0 : UInt16) ([] : List UInt8) (A6.mk (0 : UInt8) (0 : UInt8) (0 : UInt8) (0 : UInt8) (0 : UInt8) (0 : UInt8)) (A6.mk (0 : UInt8) (0 : UInt8) (0 : UInt8) (0 : UInt8) (0 : UInt8) (0 : UInt8)) ((-1) : Int) (0 : UInt16) ([] : List UInt8) (0 : Int))

/-- dumbwaiterref23.ReadHdr -/
def ref_ReadHdr23 (b : List UInt8) : Option (Hdr × Int) :=
  br (decide ((len b) < (12 : Int)))
  (some ((Hdr.mk (0 : UInt8) (0 : UInt16) (0 : UInt16) (0 : UInt16)), (4 : Int)))
  (ob (ix b (0 : Int)) fun y1 =>
  ob (ix b (6 : Int)) fun y2 =>
  ob (ix b (7 : Int)) fun y3 =>
  ob (ix b (8 : Int)) fun y4 =>
  ob (ix b (9 : Int)) fun y5 =>
  ob (ix b (10 : Int)) fun y6 =>
  ob (ix b (11 : Int)) fun y7 =>
  some ((Hdr.mk y1 (y2.toUInt16 ||| (shl16 y3.toUInt16 ((8 : UInt64).toNat))) (y4.toUInt16 ||| (shl16 y5.toUInt16 ((8 : UInt64).toNat))) (y6.toUInt16 ||| (shl16 y7.toUInt16 ((8 : UInt64).toNat)))), (0 : Int)))

def ref_Sum23J2 (i1 : Int) (L1 : UInt64 → Int → Option UInt16) (n2 : UInt64) : Option UInt16 :=
  L1 n2 (wi (i1 + (2 : Int)))

def ref_Sum23J3 (i1 : Int) (L1 : UInt64 → Int → Option UInt16) (n3 : UInt64) : Option UInt16 :=
  ref_Sum23J2 i1 L1 n3

def ref_Sum23L4B  (L4 : UInt64 → Option UInt16) (n4 : UInt64) : Option UInt16 :=
  br (decide (n4 > (65535 : UInt64)))
  (L4 ((n4 % (65536 : UInt64)) + (n4 / (65536 : UInt64))))
  (some (~~~n4.toUInt16))

def ref_Sum23L4  : Nat → UInt64 → Option UInt16
  | 0, _ => none
  | nf + 1, n4 => ref_Sum23L4B (ref_Sum23L4 nf) n4

def ref_Sum23L1B (b : List UInt8) (L1 : UInt64 → Int → Option UInt16) (n1 : UInt64) (i1 : Int) : Option UInt16 :=
  br (decide (i1 < (len b)))
  (ob (ix b i1) fun y1 =>
  br (decide ((wi (i1 + (1 : Int))) < (len b)))
  (ob (ix b (wi (i1 + (1 : Int)))) fun y2 =>
  ref_Sum23J3 i1 L1 ((n1 + (shl64 y1.toUInt64 ((8 : UInt64).toNat))) + y2.toUInt64))
  (ref_Sum23J3 i1 L1 (n1 + (shl64 y1.toUInt64 ((8 : UInt64).toNat)))))
  (ref_Sum23L4 fuel n1)

def ref_Sum23L1 (b : List UInt8) : Nat → UInt64 → Int → Option UInt16
  | 0, _, _ => none
  | nf + 1, n1, i1 => ref_Sum23L1B b (ref_Sum23L1 b nf) n1 i1

/-- dumbwaiterref23.Sum -/
def ref_Sum23 (b : List UInt8) : Option UInt16 :=
  ref_Sum23L1 b fuel (0 : UInt64) (0 : Int)

/-- dumbwaiterref23.Fill -/
def ref_Fill23 (b : List UInt8) (hp1 : Hdr) : Option ((List UInt8) × Int) :=
  chk (fits ([] : List UInt8).length b.length 1) <|
  br ((hp1.Flags &&& (1 : UInt8)) == (0 : UInt8))
  (some (b, (0 : Int)))
  (br (decide ((i16 hp1.Start) > (len b)))
  (some (([] : List UInt8), (4 : Int)))
  (br (decide ((wi ((wi ((i16 hp1.Start) + (i16 hp1.Off))) + (2 : Int))) > (len b)))
  (some (([] : List UInt8), (4 : Int)))
  (chk (decide (0 ≤ (hp1.Start.toNat : Int) ∧ (hp1.Start.toNat : Int) ≤ (len b) ∧ (len b) ≤ len b)) <|
  ob (ref_Sum23 (sub b (hp1.Start.toNat : Int) (len b))) fun sum1 =>
  ob (ix b (wi ((i16 hp1.Start) + (i16 hp1.Off)))) fun y1 =>
  ob (ix (b.set (wi ((i16 hp1.Start) + (i16 hp1.Off))).toNat ((shr16 sum1 ((8 : UInt64).toNat)).toUInt8)) (wi ((wi ((i16 hp1.Start) + (i16 hp1.Off))) + (1 : Int)))) fun y2 =>
  some ((b.set (wi ((i16 hp1.Start) + (i16 hp1.Off))).toNat ((shr16 sum1 ((8 : UInt64).toNat)).toUInt8)).set (wi ((wi ((i16 hp1.Start) + (i16 hp1.Off))) + (1 : Int))).toNat sum1.toUInt8, (0 : Int)))))

def ref_Bytes23J3  (Dst3 : A6 UInt8) (Src3 : A6 UInt8) (Vlan3 : Int) (Type3 : UInt16) (Data3 : List UInt8) (b4 : List UInt8) : Option ((List UInt8) × Int) :=
  chk (fits b4.length [(shr16 Type3 ((8 : UInt64).toNat)).toUInt8, Type3.toUInt8].length 1) <|
  chk (fits (b4 ++ [(shr16 Type3 ((8 : UInt64).toNat)).toUInt8, Type3.toUInt8]).length Data3.length 1) <|
  some ((b4 ++ [(shr16 Type3 ((8 : UInt64).toNat)).toUInt8, Type3.toUInt8]) ++ Data3, (0 : Int))

def ref_Bytes23L2B  (L2 : (A6 UInt8) → (A6 UInt8) → Int → UInt16 → (List UInt8) → (List UInt8) → Int → Option ((List UInt8) × Int)) (Dst2 : A6 UInt8) (Src2 : A6 UInt8) (Vlan2 : Int) (Type2 : UInt16) (Data2 : List UInt8) (b3 : List UInt8) (i2 : Int) : Option ((List UInt8) × Int) :=
  br (decide (i2 < (6 : Int)))
  (chk (decide (0 ≤ i2 ∧ i2 < (6 : Int))) <|
  ob (ix [Src2.a0, Src2.a1, Src2.a2, Src2.a3, Src2.a4, Src2.a5] i2) fun u2 =>
  chk (fits b3.length [u2].length 1) <|
  L2 Dst2 Src2 Vlan2 Type2 Data2 (b3 ++ [u2]) (wi (i2 + (1 : Int))))
  (br (decide (Vlan2 ≥ (0 : Int)))
  (chk (fits b3.length [(129 : UInt8), (0 : UInt8), u8 (shri Vlan2 ((8 : UInt64).toNat)), u8 Vlan2].length 1) <|
  ref_Bytes23J3 Dst2 Src2 Vlan2 Type2 Data2 (b3 ++ [(129 : UInt8), (0 : UInt8), u8 (shri Vlan2 ((8 : UInt64).toNat)), u8 Vlan2]))
  (ref_Bytes23J3 Dst2 Src2 Vlan2 Type2 Data2 b3))

def ref_Bytes23L2  : Nat → (A6 UInt8) → (A6 UInt8) → Int → UInt16 → (List UInt8) → (List UInt8) → Int → Option ((List UInt8) × Int)
  | 0, _, _, _, _, _, _, _ => none
  | nf + 1, Dst2, Src2, Vlan2, Type2, Data2, b3, i2 => ref_Bytes23L2B (ref_Bytes23L2 nf) Dst2 Src2 Vlan2 Type2 Data2 b3 i2

def ref_Bytes23L1B  (L1 : (A6 UInt8) → (A6 UInt8) → Int → UInt16 → (List UInt8) → (List UInt8) → Int → Option ((List UInt8) × Int)) (Dst1 : A6 UInt8) (Src1 : A6 UInt8) (Vlan1 : Int) (Type1 : UInt16) (Data1 : List UInt8) (b2 : List UInt8) (i1 : Int) : Option ((List UInt8) × Int) :=
  br (decide (i1 < (6 : Int)))
  (chk (decide (0 ≤ i1 ∧ i1 < (6 : Int))) <|
  ob (ix [Dst1.a0, Dst1.a1, Dst1.a2, Dst1.a3, Dst1.a4, Dst1.a5] i1) fun u1 =>
  chk (fits b2.length [u1].length 1) <|
  L1 Dst1 Src1 Vlan1 Type1 Data1 (b2 ++ [u1]) (wi (i1 + (1 : Int))))
  (ref_Bytes23L2 fuel Dst1 Src1 Vlan1 Type1 Data1 b2 (0 : Int))

def ref_Bytes23L1  : Nat → (A6 UInt8) → (A6 UInt8) → Int → UInt16 → (List UInt8) → (List UInt8) → Int → Option ((List UInt8) × Int)
  | 0, _, _, _, _, _, _, _ => none
  | nf + 1, Dst1, Src1, Vlan1, Type1, Data1, b2, i1 => ref_Bytes23L1B (ref_Bytes23L1 nf) Dst1 Src1 Vlan1 Type1 Data1 b2 i1

/-- dumbwaiterref23.Bytes -/
def ref_Bytes23 (f : Frame) : Option ((List UInt8) × Int) :=
  ob (ref_Check23 f) fun check1 =>
  br (check1 != (0 : Int))
  (some (([] : List UInt8), check1))
  (ref_Bytes23L1 fuel f.Dst f.Src f.Vlan f.Type_ f.Data [] (0 : Int))

/-- dumbwaiterkit.Frame -/
def kit_Frame (ap0 : Frame) (b : Frame) : Option Bool :=
  br (ap0.Dst == b.Dst)
  (br (ap0.Src == b.Src)
  (br (ap0.Vlan == b.Vlan)
  (br (ap0.Type_ == b.Type_)
  (some (ap0.Data == b.Data))
  (some false))
  (some false))
  (some false))
  (some false)

/-- dumbwaiterref23.Group -/
def ref_Group23 (mac : A6 UInt8) : Option Bool :=
  some ((mac.a0 % (2 : UInt8)) == (1 : UInt8))

def ref_All23L1B (mac : A6 UInt8) (L1 : Int → Option Bool) (i1 : Int) : Option Bool :=
  br (decide (i1 < (6 : Int)))
  (chk (decide (0 ≤ i1 ∧ i1 < (6 : Int))) <|
  ob (ix [mac.a0, mac.a1, mac.a2, mac.a3, mac.a4, mac.a5] i1) fun u1 =>
  br (u1 != (255 : UInt8))
  (some false)
  (L1 (wi (i1 + (1 : Int)))))
  (some true)

def ref_All23L1 (mac : A6 UInt8) : Nat → Int → Option Bool
  | 0, _ => none
  | nf + 1, i1 => ref_All23L1B mac (ref_All23L1 mac nf) i1

/-- dumbwaiterref23.All -/
def ref_All23 (mac : A6 UInt8) : Option Bool :=
  ref_All23L1 mac fuel (0 : Int)

/-- dumbwaiterref23.HdrOf -/
def ref_HdrOf23 (hp0 : Hdr) : Option (List UInt8) :=
  some [hp0.Flags, (0 : UInt8), (0 : UInt8), (0 : UInt8), (0 : UInt8), (0 : UInt8), hp0.Start.toUInt8, (shr16 hp0.Start ((8 : UInt64).toNat)).toUInt8, hp0.Off.toUInt8, (shr16 hp0.Off ((8 : UInt64).toNat)).toUInt8, hp0.Buffers.toUInt8, (shr16 hp0.Buffers ((8 : UInt64).toNat)).toUInt8]

/-- dumbwaiterlaw23.FrameCalls -/
def law23zFrameCalls (f : Frame) (g : Frame) (hp2 : Hdr) (b : List UInt8) : Option Bool :=
  ob (law23zlives) fun lives1 =>
  chk (!((!lives1))) <|
  br (decide ((len f.Data) > (3000 : Int)))
  (some true)
  (br (decide ((len g.Data) > (3000 : Int)))
  (some true)
  (br (decide ((len b) > (3000 : Int)))
  (some true)
  (ob (frame_Bytes f) fun bytes1 =>
  ob (ref_Bytes23 f) fun bytes2 =>
  ob (kit_Own b) fun own1 =>
  ob (frame_Read own1) fun read1 =>
  ob (ref_Read23 b) fun read2 =>
  chk (!(bytes1.1 != bytes2.1)) <|
  chk (!(bytes1.2 != bytes2.2)) <|
  ob (kit_Frame read1.1 read2.1) fun frame1 =>
  chk (!((!frame1))) <|
  chk (!(read1.2 != read2.2)) <|
  ob (frame_Check f) fun check1 =>
  ob (ref_Check23 f) fun check2 =>
  chk (!(check1 != check2)) <|
  ob (frame_Same f g) fun same1 =>
  ob (kit_Frame f g) fun frame2 =>
  chk (!(same1 != frame2)) <|
  ob (frame_Group f.Dst) fun group1 =>
  ob (ref_Group23 f.Dst) fun group2 =>
  chk (!(group1 != group2)) <|
  ob (frame_All f.Dst) fun all1 =>
  ob (ref_All23 f.Dst) fun all2 =>
  chk (!(all1 != all2)) <|
  ob (kit_Own b) fun own2 =>
  ob (frame_ReadHdr own2) fun readhd1 =>
  ob (ref_ReadHdr23 b) fun readhd2 =>
  ob (kit_Own b) fun own3 =>
  ob (frame_Fill own3 hp2) fun fill1 =>
  ob (ref_Fill23 b hp2) fun fill2 =>
  chk (readhd1.1 == readhd2.1) <|
  chk (readhd1.2 == readhd2.2) <|
  chk (fill1.1 == fill2.1) <|
  chk (fill1.2 == fill2.2) <|
  ob (frame_HdrOf hp2) fun hdrof1 =>
  ob (ref_HdrOf23 hp2) fun hdrof2 =>
  chk (hdrof1 == hdrof2) <|
  ob (frame_Sum b) fun sum1 =>
  ob (ref_Sum23 b) fun sum2 =>
  chk (sum1 == sum2) <|
  some true)))

def kit_LightBufsL1B (l : List (List Seg)) (segs : Int) (L1 : Int → Option Bool) (i1 : Int) : Option Bool :=
  br (decide (i1 < (len l)))
  (ob (ix l i1) fun y1 =>
  br (decide ((len y1) > segs))
  (some false)
  (L1 (wi (i1 + (1 : Int)))))
  (some true)

def kit_LightBufsL1 (l : List (List Seg)) (segs : Int) : Nat → Int → Option Bool
  | 0, _ => none
  | nf + 1, i1 => kit_LightBufsL1B l segs (kit_LightBufsL1 l segs nf) i1

/-- dumbwaiterkit.LightBufs -/
def kit_LightBufs (l : List (List Seg)) (most : Int) (segs : Int) : Option Bool :=
  br (decide ((len l) > most))
  (some false)
  (kit_LightBufsL1 l segs fuel (0 : Int))

/-- dumbwaiterkit.Segs -/
def kit_Segs (l : List Seg) : Option (List Seg) :=
  chk (fits ([] : List Seg).length l.length 16) <|
  some l

def kit_BufsL1B (l : List (List Seg)) (L1 : (List (List Seg)) → Int → Option (List (List Seg))) (out1 : List (List Seg)) (i1 : Int) : Option (List (List Seg)) :=
  br (decide (i1 < (len l)))
  (ob (ix l i1) fun y1 =>
  ob (kit_Segs y1) fun segs1 =>
  chk (fits out1.length [segs1].length 24) <|
  L1 (out1 ++ [segs1]) (wi (i1 + (1 : Int))))
  (some out1)

def kit_BufsL1 (l : List (List Seg)) : Nat → (List (List Seg)) → Int → Option (List (List Seg))
  | 0, _, _ => none
  | nf + 1, out1, i1 => kit_BufsL1B l (kit_BufsL1 l nf) out1 i1

/-- dumbwaiterkit.Bufs -/
def kit_Bufs (l : List (List Seg)) : Option (List (List Seg)) :=
  kit_BufsL1 l fuel [] (0 : Int)

/-- seg.Check$1 -/
def seg_Check_1 (arg0 : Int) (arg1 : UInt64) : Option Int :=
  br (arg0 == (0 : Int))
  (br (decide (arg1 ≥ (4294967296 : UInt64)))
  (some (2 : Int))
  (some arg0))
  (some arg0)

def seg_CheckL1B (l : List Seg) (L1 : Int → UInt64 → Int → Option Int) (m1 : Int) (m2 : UInt64) (x1 : Int) : Option Int :=
  br (decide (x1 < (len l)))
  (ob (ix l x1) fun s1 =>
  br (decide (s1.Len < (1 : UInt32)))
  (ob (seg_Check_1 (2 : Int) m2) fun check1 =>
  some check1)
  (br (decide ((s1.Len.toUInt64 - (1 : UInt64)) > ((18446744073709551615 : UInt64) - s1.At)))
  (ob (seg_Check_1 (2 : Int) m2) fun check2 =>
  some check2)
  (br (decide (x1 > (0 : Int)))
  (ob (ix l (wi (x1 - (1 : Int)))) fun s2 =>
  br (s2.Write)
  (br ((!s1.Write))
  (ob (seg_Check_1 (2 : Int) m2) fun check3 =>
  some check3)
  (L1 m1 (m2 + s1.Len.toUInt64) (wi (x1 + (1 : Int)))))
  (L1 m1 (m2 + s1.Len.toUInt64) (wi (x1 + (1 : Int)))))
  (L1 m1 (m2 + s1.Len.toUInt64) (wi (x1 + (1 : Int)))))))
  (ob (seg_Check_1 (0 : Int) m2) fun check4 =>
  some check4)

def seg_CheckL1 (l : List Seg) : Nat → Int → UInt64 → Int → Option Int
  | 0, _, _, _ => none
  | nf + 1, m1, m2, x1 => seg_CheckL1B l (seg_CheckL1 l nf) m1 m2 x1

/-- seg.Check -/
def seg_Check (l : List Seg) : Option Int :=
  br (decide ((len l) > (64 : Int)))
  (some (3 : Int))
  (seg_CheckL1 l fuel (0 : Int) (0 : UInt64) (0 : Int))

def seg_TotalJ2 (x1 : Int) (L1 : UInt64 → UInt64 → Int → Option (UInt64 × UInt64)) (read2 : UInt64) (write2 : UInt64) : Option (UInt64 × UInt64) :=
  L1 read2 write2 (wi (x1 + (1 : Int)))

def seg_TotalJ3 (x1 : Int) (L1 : UInt64 → UInt64 → Int → Option (UInt64 × UInt64)) (read3 : UInt64) (write3 : UInt64) : Option (UInt64 × UInt64) :=
  seg_TotalJ2 x1 L1 read3 write3

def seg_TotalL1B (l : List Seg) (L1 : UInt64 → UInt64 → Int → Option (UInt64 × UInt64)) (read1 : UInt64) (write1 : UInt64) (x1 : Int) : Option (UInt64 × UInt64) :=
  br (decide (x1 < (len l)))
  (ob (ix l x1) fun s1 =>
  br (s1.Write)
  (seg_TotalJ3 x1 L1 read1 (write1 + s1.Len.toUInt64))
  (seg_TotalJ3 x1 L1 (read1 + s1.Len.toUInt64) write1))
  (some (read1, write1))

def seg_TotalL1 (l : List Seg) : Nat → UInt64 → UInt64 → Int → Option (UInt64 × UInt64)
  | 0, _, _, _ => none
  | nf + 1, read1, write1, x1 => seg_TotalL1B l (seg_TotalL1 l nf) read1 write1 x1

/-- seg.Total -/
def seg_Total (l : List Seg) : Option (UInt64 × UInt64) :=
  ob (seg_Check l) fun check1 =>
  br (check1 != (0 : Int))
  (some ((0 : UInt64), (0 : UInt64)))
  (seg_TotalL1 l fuel (0 : UInt64) (0 : UInt64) (0 : Int))

/-- net.room -/
def net_room (l : List Seg) : Option UInt64 :=
  ob (seg_Total l) fun total1 =>
  some total1.2

/-- feat.Has -/
def feat_Has (set : UInt64) (bit : Int) : Option Bool :=
  br (decide (bit ≥ (0 : Int)))
  (br (decide (bit ≤ (63 : Int)))
  (chk (decide (0 ≤ bit)) <|
  some (((shr64 set bit.toNat) &&& (1 : UInt64)) == (1 : UInt64)))
  (some false))
  (some false)

def net_NeedsJ2 (np2 : Int) (sum1 : UInt64) (x1 : Int) (L1 : UInt64 → Int → Option (Int × Bool)) (room1 : UInt64) (x2 : Bool) : Option (Int × Bool) :=
  br (x2)
  (some ((0 : Int), false))
  (br (decide ((sum1 + room1) ≥ (u64 (maxi np2 (12 : Int)))))
  (some (wi (x1 + (1 : Int)), true))
  (L1 (sum1 + room1) (wi (x1 + (1 : Int)))))

def net_NeedsL1B (bufs : List (List Seg)) (np2 : Int) (has1 : Bool) (L1 : UInt64 → Int → Option (Int × Bool)) (sum1 : UInt64) (x1 : Int) : Option (Int × Bool) :=
  br (decide (x1 < (len bufs)))
  (ob (ix bufs x1) fun y1 =>
  ob (net_room y1) fun room1 =>
  br (room1 == (0 : UInt64))
  (net_NeedsJ2 np2 sum1 x1 L1 room1 (room1 == (0 : UInt64)))
  (br (x1 == (0 : Int))
  (br (decide (room1 < (12 : UInt64)))
  (net_NeedsJ2 np2 sum1 x1 L1 room1 (decide (room1 < (12 : UInt64))))
  (br (decide (x1 > (0 : Int)))
  (net_NeedsJ2 np2 sum1 x1 L1 room1 (!has1))
  (net_NeedsJ2 np2 sum1 x1 L1 room1 false)))
  (br (decide (x1 > (0 : Int)))
  (net_NeedsJ2 np2 sum1 x1 L1 room1 (!has1))
  (net_NeedsJ2 np2 sum1 x1 L1 room1 false))))
  (some ((0 : Int), false))

def net_NeedsL1 (bufs : List (List Seg)) (np2 : Int) (has1 : Bool) : Nat → UInt64 → Int → Option (Int × Bool)
  | 0, _, _ => none
  | nf + 1, sum1, x1 => net_NeedsL1B bufs np2 has1 (net_NeedsL1 bufs np2 has1 nf) sum1 x1

/-- net.Needs -/
def net_Needs (feats : UInt64) (bufs : List (List Seg)) (np2 : Int) : Option (Int × Bool) :=
  ob (feat_Has feats (15 : Int)) fun has1 =>
  net_NeedsL1 bufs np2 has1 fuel (0 : UInt64) (0 : Int)

def ref_Check05L1B (l : List Seg) (L1 : UInt64 → Int → Option Int) (sum1 : UInt64) (i1 : Int) : Option Int :=
  br (decide (i1 < (len l)))
  (ob (ix l i1) fun s1 =>
  br (s1.Len == (0 : UInt32))
  (some (2 : Int))
  (ob (ix l i1) fun s2 =>
  ob (ix l i1) fun s3 =>
  ob (ix l i1) fun s4 =>
  br (decide ((s2.At + (s3.Len.toUInt64 - (1 : UInt64))) < s4.At))
  (some (2 : Int))
  (br (decide (i1 > (0 : Int)))
  (ob (ix l (wi (i1 - (1 : Int)))) fun s5 =>
  br (s5.Write)
  (ob (ix l i1) fun s6 =>
  br ((!s6.Write))
  (some (2 : Int))
  (ob (ix l i1) fun s7 =>
  L1 (sum1 + s7.Len.toUInt64) (wi (i1 + (1 : Int)))))
  (ob (ix l i1) fun s8 =>
  L1 (sum1 + s8.Len.toUInt64) (wi (i1 + (1 : Int)))))
  (ob (ix l i1) fun s9 =>
  L1 (sum1 + s9.Len.toUInt64) (wi (i1 + (1 : Int)))))))
  (br (decide (sum1 ≥ (4294967296 : UInt64)))
  (some (2 : Int))
  (some (0 : Int)))

def ref_Check05L1 (l : List Seg) : Nat → UInt64 → Int → Option Int
  | 0, _, _ => none
  | nf + 1, sum1, i1 => ref_Check05L1B l (ref_Check05L1 l nf) sum1 i1

/-- dumbwaiterref05.Check -/
def ref_Check05 (l : List Seg) : Option Int :=
  br (decide ((len l) > (64 : Int)))
  (some (3 : Int))
  (ref_Check05L1 l fuel (0 : UInt64) (0 : Int))

def ref_Total05J2 (i1 : Int) (L1 : UInt64 → UInt64 → Int → Option (UInt64 × UInt64)) (read2 : UInt64) (write2 : UInt64) : Option (UInt64 × UInt64) :=
  L1 read2 write2 (wi (i1 + (1 : Int)))

def ref_Total05J3 (i1 : Int) (L1 : UInt64 → UInt64 → Int → Option (UInt64 × UInt64)) (read3 : UInt64) (write3 : UInt64) : Option (UInt64 × UInt64) :=
  ref_Total05J2 i1 L1 read3 write3

def ref_Total05L1B (l : List Seg) (L1 : UInt64 → UInt64 → Int → Option (UInt64 × UInt64)) (read1 : UInt64) (write1 : UInt64) (i1 : Int) : Option (UInt64 × UInt64) :=
  br (decide (i1 < (len l)))
  (ob (ref_Check05 l) fun check1 =>
  br (check1 == (0 : Int))
  (ob (ix l i1) fun s1 =>
  br (s1.Write)
  (ob (ix l i1) fun s2 =>
  ref_Total05J3 i1 L1 read1 (write1 + s2.Len.toUInt64))
  (ob (ix l i1) fun s3 =>
  ref_Total05J3 i1 L1 (read1 + s3.Len.toUInt64) write1))
  (some (read1, write1)))
  (some (read1, write1))

def ref_Total05L1 (l : List Seg) : Nat → UInt64 → UInt64 → Int → Option (UInt64 × UInt64)
  | 0, _, _, _ => none
  | nf + 1, read1, write1, i1 => ref_Total05L1B l (ref_Total05L1 l nf) read1 write1 i1

/-- dumbwaiterref05.Total -/
def ref_Total05 (l : List Seg) : Option (UInt64 × UInt64) :=
  ref_Total05L1 l fuel (0 : UInt64) (0 : UInt64) (0 : Int)

def law25zroomsL1B (l : List Int) (L1 : UInt64 → (List (List Seg)) → Int → Option (List (List Seg))) (at1 : UInt64) (out1 : List (List Seg)) (i1 : Int) : Option (List (List Seg)) :=
  br (decide (i1 < (len l)))
  (ob (ix l i1) fun y1 =>
  chk (fits out1.length [[(Seg.mk at1 (u32 y1) true)]].length 24) <|
  ob (ix l i1) fun y2 =>
  L1 (at1 + (u64 y2)) (out1 ++ [[(Seg.mk at1 (u32 y1) true)]]) (wi (i1 + (1 : Int))))
  (some out1)

def law25zroomsL1 (l : List Int) : Nat → UInt64 → (List (List Seg)) → Int → Option (List (List Seg))
  | 0, _, _, _ => none
  | nf + 1, at1, out1, i1 => law25zroomsL1B l (law25zroomsL1 l nf) at1 out1 i1

/-- dumbwaiterlaw25.rooms -/
def law25zrooms (l : List Int) : Option (List (List Seg)) :=
  law25zroomsL1 l fuel (100 : UInt64) [] (0 : Int)

/-- dumbwaiterlaw25.lives -/
def law25zlives  : Option Bool :=
  ob (law25zrooms [(20 : Int), (20 : Int), (20 : Int)]) fun rooms1 =>
  ob (net_Needs (32768 : UInt64) rooms1 (40 : Int)) fun needs1 =>
  ob (net_Needs (32768 : UInt64) rooms1 (41 : Int)) fun needs2 =>
  ob (net_Needs (32768 : UInt64) rooms1 (61 : Int)) fun needs3 =>
  ob (net_Needs (0 : UInt64) rooms1 (20 : Int)) fun needs4 =>
  ob (net_Needs (0 : UInt64) rooms1 (21 : Int)) fun needs5 =>
  br (needs1.1 == (2 : Int))
  (br (needs1.2)
  (br (needs2.1 == (3 : Int))
  (br (needs2.2)
  (br (needs3.1 == (0 : Int))
  (br ((!needs3.2))
  (br (needs4.1 == (1 : Int))
  (br (needs4.2)
  (br (needs5.1 == (0 : Int))
  (some (!needs5.2))
  (some false))
  (some false))
  (some false))
  (some false))
  (some false))
  (some false))
  (some false))
  (some false))
  (some false)

def law25zNetNeedsL1B (l : List (List Seg)) (feats : UInt64) (np2 : Int) (less : Int) (needs1 : (Int × Bool)) (needs2 : (Int × Bool)) (L1 : UInt64 → Int → Option Bool) (sum1 : UInt64) (i1 : Int) : Option Bool :=
  br (decide (i1 < needs1.1))
  (ob (ix l i1) fun y1 =>
  ob (ref_Total05 y1) fun total1 =>
  br (i1 == (wi (needs1.1 - (1 : Int))))
  (chk (!(decide (sum1 ≥ (u64 (maxi np2 (12 : Int)))))) <|
  L1 (sum1 + total1.2) (wi (i1 + (1 : Int))))
  (L1 (sum1 + total1.2) (wi (i1 + (1 : Int)))))
  (ob (kit_Bufs l) fun bufs3 =>
  ob (net_Needs feats bufs3 (wi (np2 - (mini less (1099511627776 : Int))))) fun needs3 =>
  chk (decide (needs1.1 ≥ (1 : Int))) <|
  chk (decide (needs1.1 ≤ (len l))) <|
  chk (decide (sum1 ≥ (u64 (maxi np2 (12 : Int))))) <|
  chk (needs2.2) <|
  chk (needs2.1 == needs1.1) <|
  chk (needs3.2) <|
  chk (decide (needs3.1 ≤ needs1.1)) <|
  br (((shr64 feats ((15 : UInt64).toNat)) &&& (1 : UInt64)) == (1 : UInt64))
  (some true)
  (chk (needs1.1 == (1 : Int)) <|
  some true))

def law25zNetNeedsL1 (l : List (List Seg)) (feats : UInt64) (np2 : Int) (less : Int) (needs1 : (Int × Bool)) (needs2 : (Int × Bool)) : Nat → UInt64 → Int → Option Bool
  | 0, _, _ => none
  | nf + 1, sum1, i1 => law25zNetNeedsL1B l feats np2 less needs1 needs2 (law25zNetNeedsL1 l feats np2 less needs1 needs2 nf) sum1 i1

/-- dumbwaiterlaw25.NetNeeds -/
def law25zNetNeeds (l : List (List Seg)) (feats : UInt64) (np2 : Int) (less : Int) (more : List Seg) : Option Bool :=
  ob (law25zlives) fun lives1 =>
  chk (!((!lives1))) <|
  ob (kit_LightBufs l (20 : Int) (20 : Int)) fun lightb1 =>
  br ((!lightb1))
  (some true)
  (br (decide ((len more) > (20 : Int)))
  (some true)
  (br (decide (np2 > (1099511627776 : Int)))
  (some true)
  (br (decide (less < (0 : Int)))
  (some true)
  (br (decide (np2 < ((-1099511627776) : Int)))
  (some true)
  (ob (kit_Bufs l) fun bufs1 =>
  ob (net_Needs feats bufs1 np2) fun needs1 =>
  ob (kit_Bufs l) fun bufs2 =>
  ob (kit_Segs more) fun segs1 =>
  chk (fits bufs2.length [segs1].length 24) <|
  ob (net_Needs feats (bufs2 ++ [segs1]) np2) fun needs2 =>
  br ((!needs1.2))
  (chk (needs1.1 == (0 : Int)) <|
  some true)
  (law25zNetNeedsL1 l feats np2 less needs1 needs2 fuel (0 : UInt64) (0 : Int)))))))
end Go.Proofs.Ytgpggnhifkkfbaa
