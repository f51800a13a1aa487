/- Facts on the types and functions of this program, each by the kernel. -/
import Derived.Test.YtefhfoioeoijlaaGreatStep
import Derived.Test.YtefhfoioeoijlaaGreatProg
set_option linter.unusedVariables false
namespace Go.Proofs.YtefhfoioeoijlaaGreat
open Go Go.RowKit Go.Sort
theorem Ty.ag1 : ∀ w, (isAgg 1).run Tryz.prog w = .ok false w := fun _ => by kernel_rfl
theorem Ty.sz1 : ∀ w, (sizeOf 1).run Tryz.prog w = .ok 1 w := fun _ => by kernel_rfl
theorem Ty.zv1 : ∀ w, (zeroValue 1).run Tryz.prog w = .ok (.nilFunc) w := fun _ => by kernel_rfl
theorem Ty.ag2 : ∀ w, (isAgg 2).run Tryz.prog w = .ok false w := fun _ => by kernel_rfl
theorem Ty.sz2 : ∀ w, (sizeOf 2).run Tryz.prog w = .ok 1 w := fun _ => by kernel_rfl
theorem Ty.zv2 : ∀ w, (zeroValue 2).run Tryz.prog w = .ok (.int .i64 0) w := fun _ => by kernel_rfl
theorem Ty.ag3 : ∀ w, (isAgg 3).run Tryz.prog w = .ok false w := fun _ => by kernel_rfl
theorem Ty.sz3 : ∀ w, (sizeOf 3).run Tryz.prog w = .ok 1 w := fun _ => by kernel_rfl
theorem Ty.zv3 : ∀ w, (zeroValue 3).run Tryz.prog w = .ok (.int .i64 0) w := fun _ => by kernel_rfl
theorem Ty.ag4 : ∀ w, (isAgg 4).run Tryz.prog w = .ok false w := fun _ => by kernel_rfl
theorem Ty.sz4 : ∀ w, (sizeOf 4).run Tryz.prog w = .ok 1 w := fun _ => by kernel_rfl
theorem Ty.zv4 : ∀ w, (zeroValue 4).run Tryz.prog w = .ok (.bool false) w := fun _ => by kernel_rfl
theorem Ty.ag5 : ∀ w, (isAgg 5).run Tryz.prog w = .ok false w := fun _ => by kernel_rfl
theorem Ty.sz5 : ∀ w, (sizeOf 5).run Tryz.prog w = .ok 1 w := fun _ => by kernel_rfl
theorem Ty.zv5 : ∀ w, (zeroValue 5).run Tryz.prog w = .ok (.int .u8 0) w := fun _ => by kernel_rfl
theorem Ty.ag9 : ∀ w, (isAgg 9).run Tryz.prog w = .ok false w := fun _ => by kernel_rfl
theorem Ty.sz9 : ∀ w, (sizeOf 9).run Tryz.prog w = .ok 1 w := fun _ => by kernel_rfl
theorem Ty.zv9 : ∀ w, (zeroValue 9).run Tryz.prog w = .ok (.string (⟨#[]⟩)) w := fun _ => by kernel_rfl
theorem Ty.un9 : Tryz.prog.underlying 9 = some .string := by kernel_rfl
theorem Ty.ag21 : ∀ w, (isAgg 21).run Tryz.prog w = .ok false w := fun _ => by kernel_rfl
theorem Ty.sz21 : ∀ w, (sizeOf 21).run Tryz.prog w = .ok 1 w := fun _ => by kernel_rfl
theorem Ty.zv21 : ∀ w, (zeroValue 21).run Tryz.prog w = .ok (.int .i32 0) w := fun _ => by kernel_rfl
theorem Ty.ag22 : ∀ w, (isAgg 22).run Tryz.prog w = .ok false w := fun _ => by kernel_rfl
theorem Ty.sz22 : ∀ w, (sizeOf 22).run Tryz.prog w = .ok 1 w := fun _ => by kernel_rfl
theorem Ty.zv22 : ∀ w, (zeroValue 22).run Tryz.prog w = .ok (.slice none 0 0) w := fun _ => by kernel_rfl
theorem Ty.un22 : Tryz.prog.underlying 22 = some (.slice 40) := by kernel_rfl
theorem Ty.ag25 : ∀ w, (isAgg 25).run Tryz.prog w = .ok false w := fun _ => by kernel_rfl
theorem Ty.sz25 : ∀ w, (sizeOf 25).run Tryz.prog w = .ok 1 w := fun _ => by kernel_rfl
theorem Ty.zv25 : ∀ w, (zeroValue 25).run Tryz.prog w = .ok (.pointer none) w := fun _ => by kernel_rfl
theorem Ty.ag27 : ∀ w, (isAgg 27).run Tryz.prog w = .ok false w := fun _ => by kernel_rfl
theorem Ty.sz27 : ∀ w, (sizeOf 27).run Tryz.prog w = .ok 1 w := fun _ => by kernel_rfl
theorem Ty.zv27 : ∀ w, (zeroValue 27).run Tryz.prog w = .ok (.pointer none) w := fun _ => by kernel_rfl
theorem Ty.ag28 : ∀ w, (isAgg 28).run Tryz.prog w = .ok false w := fun _ => by kernel_rfl
theorem Ty.sz28 : ∀ w, (sizeOf 28).run Tryz.prog w = .ok 1 w := fun _ => by kernel_rfl
theorem Ty.zv28 : ∀ w, (zeroValue 28).run Tryz.prog w = .ok (.slice none 0 0) w := fun _ => by kernel_rfl
theorem Ty.un28 : Tryz.prog.underlying 28 = some (.slice 38) := by kernel_rfl
theorem Ty.ag30 : ∀ w, (isAgg 30).run Tryz.prog w = .ok true w := fun _ => by kernel_rfl
theorem Ty.sz30 : ∀ w, (sizeOf 30).run Tryz.prog w = .ok 1 w := fun _ => by kernel_rfl
theorem Ty.zv30 : ∀ w, (zeroValue 30).run Tryz.prog w = .ok (.agg #[.slice none 0 0]) w := fun _ => by kernel_rfl
noncomputable def Ty.fs30 : List Field := match Tryz.prog.underlying 30 with | some (.struct fs) => fs.toList | _ => []
theorem Ty.un30 : Tryz.prog.underlying 30 = some (.struct Ty.fs30.toArray) := by kernel_rfl
theorem Ty.pl30 : ∀ w, (Ty.fs30.mapM fun f => Prod.mk f.offset <$> sizeOf f.type : Sem (List (Nat × Nat))).run Tryz.prog w = .ok [(0, 1)] w := fun _ => by kernel_rfl
theorem Ty.ag31 : ∀ w, (isAgg 31).run Tryz.prog w = .ok false w := fun _ => by kernel_rfl
theorem Ty.sz31 : ∀ w, (sizeOf 31).run Tryz.prog w = .ok 1 w := fun _ => by kernel_rfl
theorem Ty.zv31 : ∀ w, (zeroValue 31).run Tryz.prog w = .ok (.int .i64 0) w := fun _ => by kernel_rfl
theorem Ty.ag35 : ∀ w, (isAgg 35).run Tryz.prog w = .ok true w := fun _ => by kernel_rfl
theorem Ty.sz35 : ∀ w, (sizeOf 35).run Tryz.prog w = .ok 2 w := fun _ => by kernel_rfl
theorem Ty.zv35 : ∀ w, (zeroValue 35).run Tryz.prog w = .ok (.agg #[.int .i64 0, .int .i64 0]) w := fun _ => by kernel_rfl
noncomputable def Ty.fs35 : List Field := match Tryz.prog.underlying 35 with | some (.struct fs) => fs.toList | _ => []
theorem Ty.un35 : Tryz.prog.underlying 35 = some (.struct Ty.fs35.toArray) := by kernel_rfl
theorem Ty.pl35 : ∀ w, (Ty.fs35.mapM fun f => Prod.mk f.offset <$> sizeOf f.type : Sem (List (Nat × Nat))).run Tryz.prog w = .ok [(0, 1), (1, 1)] w := fun _ => by kernel_rfl
theorem Ty.ag36 : ∀ w, (isAgg 36).run Tryz.prog w = .ok false w := fun _ => by kernel_rfl
theorem Ty.sz36 : ∀ w, (sizeOf 36).run Tryz.prog w = .ok 1 w := fun _ => by kernel_rfl
theorem Ty.zv36 : ∀ w, (zeroValue 36).run Tryz.prog w = .ok (.slice none 0 0) w := fun _ => by kernel_rfl
theorem Ty.un36 : Tryz.prog.underlying 36 = some (.slice 5) := by kernel_rfl
theorem Ty.ag38 : ∀ w, (isAgg 38).run Tryz.prog w = .ok true w := fun _ => by kernel_rfl
theorem Ty.sz38 : ∀ w, (sizeOf 38).run Tryz.prog w = .ok 10 w := fun _ => by kernel_rfl
theorem Ty.zv38 : ∀ w, (zeroValue 38).run Tryz.prog w = .ok (.agg #[.int .i64 0, .int .i64 0, .int .i64 0, .int .i64 0, .int .i64 0, .int .i64 0, .int .i64 0, .bool false, .string (⟨#[]⟩), .slice none 0 0]) w := fun _ => by kernel_rfl
noncomputable def Ty.fs38 : List Field := match Tryz.prog.underlying 38 with | some (.struct fs) => fs.toList | _ => []
theorem Ty.un38 : Tryz.prog.underlying 38 = some (.struct Ty.fs38.toArray) := by kernel_rfl
theorem Ty.pl38 : ∀ w, (Ty.fs38.mapM fun f => Prod.mk f.offset <$> sizeOf f.type : Sem (List (Nat × Nat))).run Tryz.prog w = .ok [(0, 1), (1, 2), (3, 2), (5, 2), (7, 1), (8, 1), (9, 1)] w := fun _ => by kernel_rfl
theorem Ty.ag40 : ∀ w, (isAgg 40).run Tryz.prog w = .ok true w := fun _ => by kernel_rfl
theorem Ty.sz40 : ∀ w, (sizeOf 40).run Tryz.prog w = .ok 11 w := fun _ => by kernel_rfl
theorem Ty.zv40 : ∀ w, (zeroValue 40).run Tryz.prog w = .ok (.agg #[.bool false, .int .i64 0, .int .i64 0, .int .i64 0, .int .i64 0, .int .i64 0, .int .i64 0, .int .i64 0, .bool false, .string (⟨#[]⟩), .slice none 0 0]) w := fun _ => by kernel_rfl
noncomputable def Ty.fs40 : List Field := match Tryz.prog.underlying 40 with | some (.struct fs) => fs.toList | _ => []
theorem Ty.un40 : Tryz.prog.underlying 40 = some (.struct Ty.fs40.toArray) := by kernel_rfl
theorem Ty.pl40 : ∀ w, (Ty.fs40.mapM fun f => Prod.mk f.offset <$> sizeOf f.type : Sem (List (Nat × Nat))).run Tryz.prog w = .ok [(0, 1), (1, 10)] w := fun _ => by kernel_rfl
theorem Ty.ag47 : ∀ w, (isAgg 47).run Tryz.prog w = .ok false w := fun _ => by kernel_rfl
theorem Ty.sz47 : ∀ w, (sizeOf 47).run Tryz.prog w = .ok 1 w := fun _ => by kernel_rfl
theorem Ty.zv47 : ∀ w, (zeroValue 47).run Tryz.prog w = .ok (.slice none 0 0) w := fun _ => by kernel_rfl
theorem Ty.un47 : Tryz.prog.underlying 47 = some (.slice 76) := by kernel_rfl
theorem Ty.ag49 : ∀ w, (isAgg 49).run Tryz.prog w = .ok false w := fun _ => by kernel_rfl
theorem Ty.sz49 : ∀ w, (sizeOf 49).run Tryz.prog w = .ok 1 w := fun _ => by kernel_rfl
theorem Ty.zv49 : ∀ w, (zeroValue 49).run Tryz.prog w = .ok (.slice none 0 0) w := fun _ => by kernel_rfl
theorem Ty.un49 : Tryz.prog.underlying 49 = some (.slice 61) := by kernel_rfl
theorem Ty.ag50 : ∀ w, (isAgg 50).run Tryz.prog w = .ok false w := fun _ => by kernel_rfl
theorem Ty.sz50 : ∀ w, (sizeOf 50).run Tryz.prog w = .ok 1 w := fun _ => by kernel_rfl
theorem Ty.zv50 : ∀ w, (zeroValue 50).run Tryz.prog w = .ok (.pointer none) w := fun _ => by kernel_rfl
theorem Ty.ag54 : ∀ w, (isAgg 54).run Tryz.prog w = .ok true w := fun _ => by kernel_rfl
theorem Ty.sz54 : ∀ w, (sizeOf 54).run Tryz.prog w = .ok 1 w := fun _ => by kernel_rfl
theorem Ty.zv54 : ∀ w, (zeroValue 54).run Tryz.prog w = .ok (.agg #[.slice none 0 0]) w := fun _ => by kernel_rfl
noncomputable def Ty.fs54 : List Field := match Tryz.prog.underlying 54 with | some (.struct fs) => fs.toList | _ => []
theorem Ty.un54 : Tryz.prog.underlying 54 = some (.struct Ty.fs54.toArray) := by kernel_rfl
theorem Ty.pl54 : ∀ w, (Ty.fs54.mapM fun f => Prod.mk f.offset <$> sizeOf f.type : Sem (List (Nat × Nat))).run Tryz.prog w = .ok [(0, 1)] w := fun _ => by kernel_rfl
theorem Ty.ag55 : ∀ w, (isAgg 55).run Tryz.prog w = .ok false w := fun _ => by kernel_rfl
theorem Ty.sz55 : ∀ w, (sizeOf 55).run Tryz.prog w = .ok 1 w := fun _ => by kernel_rfl
theorem Ty.zv55 : ∀ w, (zeroValue 55).run Tryz.prog w = .ok (.pointer none) w := fun _ => by kernel_rfl
theorem Ty.ag61 : ∀ w, (isAgg 61).run Tryz.prog w = .ok true w := fun _ => by kernel_rfl
theorem Ty.sz61 : ∀ w, (sizeOf 61).run Tryz.prog w = .ok 10 w := fun _ => by kernel_rfl
theorem Ty.zv61 : ∀ w, (zeroValue 61).run Tryz.prog w = .ok (.agg #[.int .i64 0, .int .i64 0, .int .i64 0, .int .i64 0, .string (⟨#[]⟩), .bool false, .bool false, .slice none 0 0, .int .i64 0, .int .i64 0]) w := fun _ => by kernel_rfl
noncomputable def Ty.fs61 : List Field := match Tryz.prog.underlying 61 with | some (.struct fs) => fs.toList | _ => []
theorem Ty.un61 : Tryz.prog.underlying 61 = some (.struct Ty.fs61.toArray) := by kernel_rfl
theorem Ty.pl61 : ∀ w, (Ty.fs61.mapM fun f => Prod.mk f.offset <$> sizeOf f.type : Sem (List (Nat × Nat))).run Tryz.prog w = .ok [(0, 2), (2, 2), (4, 1), (5, 1), (6, 1), (7, 1), (8, 2)] w := fun _ => by kernel_rfl
theorem Ty.ag64 : ∀ w, (isAgg 64).run Tryz.prog w = .ok false w := fun _ => by kernel_rfl
theorem Ty.sz64 : ∀ w, (sizeOf 64).run Tryz.prog w = .ok 1 w := fun _ => by kernel_rfl
theorem Ty.zv64 : ∀ w, (zeroValue 64).run Tryz.prog w = .ok (.slice none 0 0) w := fun _ => by kernel_rfl
theorem Ty.un64 : Tryz.prog.underlying 64 = some (.slice 73) := by kernel_rfl
theorem Ty.ag66 : ∀ w, (isAgg 66).run Tryz.prog w = .ok true w := fun _ => by kernel_rfl
theorem Ty.sz66 : ∀ w, (sizeOf 66).run Tryz.prog w = .ok 2 w := fun _ => by kernel_rfl
theorem Ty.zv66 : ∀ w, (zeroValue 66).run Tryz.prog w = .ok (.agg #[.slice none 0 0, .pointer none]) w := fun _ => by kernel_rfl
noncomputable def Ty.fs66 : List Field := match Tryz.prog.underlying 66 with | some (.struct fs) => fs.toList | _ => []
theorem Ty.un66 : Tryz.prog.underlying 66 = some (.struct Ty.fs66.toArray) := by kernel_rfl
theorem Ty.pl66 : ∀ w, (Ty.fs66.mapM fun f => Prod.mk f.offset <$> sizeOf f.type : Sem (List (Nat × Nat))).run Tryz.prog w = .ok [(0, 1), (1, 1)] w := fun _ => by kernel_rfl
theorem Ty.ag73 : ∀ w, (isAgg 73).run Tryz.prog w = .ok true w := fun _ => by kernel_rfl
theorem Ty.sz73 : ∀ w, (sizeOf 73).run Tryz.prog w = .ok 22 w := fun _ => by kernel_rfl
theorem Ty.zv73 : ∀ w, (zeroValue 73).run Tryz.prog w = .ok (.agg #[.int .i64 0, .int .i64 0, .int .i64 0, .int .i64 0, .int .i64 0, .int .i64 0, .int .i64 0, .bool false, .string (⟨#[]⟩), .slice none 0 0, .int .i64 0, .int .i64 0, .int .i64 0, .int .i64 0, .string (⟨#[]⟩), .bool false, .bool false, .slice none 0 0, .int .i64 0, .int .i64 0, .bool false, .bool false]) w := fun _ => by kernel_rfl
noncomputable def Ty.fs73 : List Field := match Tryz.prog.underlying 73 with | some (.struct fs) => fs.toList | _ => []
theorem Ty.un73 : Tryz.prog.underlying 73 = some (.struct Ty.fs73.toArray) := by kernel_rfl
theorem Ty.pl73 : ∀ w, (Ty.fs73.mapM fun f => Prod.mk f.offset <$> sizeOf f.type : Sem (List (Nat × Nat))).run Tryz.prog w = .ok [(0, 10), (10, 10), (20, 1), (21, 1)] w := fun _ => by kernel_rfl
theorem Ty.ag76 : ∀ w, (isAgg 76).run Tryz.prog w = .ok true w := fun _ => by kernel_rfl
theorem Ty.sz76 : ∀ w, (sizeOf 76).run Tryz.prog w = .ok 10 w := fun _ => by kernel_rfl
theorem Ty.zv76 : ∀ w, (zeroValue 76).run Tryz.prog w = .ok (.agg #[.int .i64 0, .int .i64 0, .int .i64 0, .int .i64 0, .string (⟨#[]⟩), .bool false, .bool false, .slice none 0 0, .int .i64 0, .int .i64 0]) w := fun _ => by kernel_rfl
noncomputable def Ty.fs76 : List Field := match Tryz.prog.underlying 76 with | some (.struct fs) => fs.toList | _ => []
theorem Ty.un76 : Tryz.prog.underlying 76 = some (.struct Ty.fs76.toArray) := by kernel_rfl
theorem Ty.pl76 : ∀ w, (Ty.fs76.mapM fun f => Prod.mk f.offset <$> sizeOf f.type : Sem (List (Nat × Nat))).run Tryz.prog w = .ok [(0, 2), (2, 2), (4, 1), (5, 1), (6, 1), (7, 1), (8, 2)] w := fun _ => by kernel_rfl
theorem Ty.ag79 : ∀ w, (isAgg 79).run Tryz.prog w = .ok false w := fun _ => by kernel_rfl
theorem Ty.sz79 : ∀ w, (sizeOf 79).run Tryz.prog w = .ok 1 w := fun _ => by kernel_rfl
theorem Ty.zv79 : ∀ w, (zeroValue 79).run Tryz.prog w = .ok (.nilFunc) w := fun _ => by kernel_rfl
theorem Ty.ag86 : ∀ w, (isAgg 86).run Tryz.prog w = .ok false w := fun _ => by kernel_rfl
theorem Ty.sz86 : ∀ w, (sizeOf 86).run Tryz.prog w = .ok 1 w := fun _ => by kernel_rfl
theorem Ty.zv86 : ∀ w, (zeroValue 86).run Tryz.prog w = .ok (.map none) w := fun _ => by kernel_rfl
theorem Ty.un86 : Tryz.prog.underlying 86 = some (.map 35 61) := by kernel_rfl
theorem Ty.ag88 : ∀ w, (isAgg 88).run Tryz.prog w = .ok true w := fun _ => by kernel_rfl
theorem Ty.sz88 : ∀ w, (sizeOf 88).run Tryz.prog w = .ok 1 w := fun _ => by kernel_rfl
theorem Ty.zv88 : ∀ w, (zeroValue 88).run Tryz.prog w = .ok (.agg #[.map none]) w := fun _ => by kernel_rfl
noncomputable def Ty.fs88 : List Field := match Tryz.prog.underlying 88 with | some (.struct fs) => fs.toList | _ => []
theorem Ty.un88 : Tryz.prog.underlying 88 = some (.struct Ty.fs88.toArray) := by kernel_rfl
theorem Ty.pl88 : ∀ w, (Ty.fs88.mapM fun f => Prod.mk f.offset <$> sizeOf f.type : Sem (List (Nat × Nat))).run Tryz.prog w = .ok [(0, 1)] w := fun _ => by kernel_rfl
theorem Ty.ag94 : ∀ w, (isAgg 94).run Tryz.prog w = .ok false w := fun _ => by kernel_rfl
theorem Ty.sz94 : ∀ w, (sizeOf 94).run Tryz.prog w = .ok 1 w := fun _ => by kernel_rfl
theorem Ty.zv94 : ∀ w, (zeroValue 94).run Tryz.prog w = .ok (.slice none 0 0) w := fun _ => by kernel_rfl
theorem Ty.un94 : Tryz.prog.underlying 94 = some (.slice 35) := by kernel_rfl
theorem Ty.ag97 : ∀ w, (isAgg 97).run Tryz.prog w = .ok false w := fun _ => by kernel_rfl
theorem Ty.sz97 : ∀ w, (sizeOf 97).run Tryz.prog w = .ok 1 w := fun _ => by kernel_rfl
theorem Ty.zv97 : ∀ w, (zeroValue 97).run Tryz.prog w = .ok (.nilFunc) w := fun _ => by kernel_rfl
theorem Ty.ag99 : ∀ w, (isAgg 99).run Tryz.prog w = .ok false w := fun _ => by kernel_rfl
theorem Ty.sz99 : ∀ w, (sizeOf 99).run Tryz.prog w = .ok 1 w := fun _ => by kernel_rfl
theorem Ty.zv99 : ∀ w, (zeroValue 99).run Tryz.prog w = .ok (.nilFunc) w := fun _ => by kernel_rfl
theorem Ty.ag104 : ∀ w, (isAgg 104).run Tryz.prog w = .ok false w := fun _ => by kernel_rfl
theorem Ty.sz104 : ∀ w, (sizeOf 104).run Tryz.prog w = .ok 1 w := fun _ => by kernel_rfl
theorem Ty.zv104 : ∀ w, (zeroValue 104).run Tryz.prog w = .ok (.nilFunc) w := fun _ => by kernel_rfl
theorem Ty.ag111 : ∀ w, (isAgg 111).run Tryz.prog w = .ok false w := fun _ => by kernel_rfl
theorem Ty.sz111 : ∀ w, (sizeOf 111).run Tryz.prog w = .ok 1 w := fun _ => by kernel_rfl
theorem Ty.zv111 : ∀ w, (zeroValue 111).run Tryz.prog w = .ok (.pointer none) w := fun _ => by kernel_rfl
theorem Ty.ag120 : ∀ w, (isAgg 120).run Tryz.prog w = .ok false w := fun _ => by kernel_rfl
theorem Ty.sz120 : ∀ w, (sizeOf 120).run Tryz.prog w = .ok 1 w := fun _ => by kernel_rfl
theorem Ty.zv120 : ∀ w, (zeroValue 120).run Tryz.prog w = .ok (.int .u64 0) w := fun _ => by kernel_rfl
theorem Ty.ag123 : ∀ w, (isAgg 123).run Tryz.prog w = .ok false w := fun _ => by kernel_rfl
theorem Ty.sz123 : ∀ w, (sizeOf 123).run Tryz.prog w = .ok 1 w := fun _ => by kernel_rfl
theorem Ty.zv123 : ∀ w, (zeroValue 123).run Tryz.prog w = .ok (.nilFunc) w := fun _ => by kernel_rfl
theorem Ty.ag131 : ∀ w, (isAgg 131).run Tryz.prog w = .ok false w := fun _ => by kernel_rfl
theorem Ty.sz131 : ∀ w, (sizeOf 131).run Tryz.prog w = .ok 1 w := fun _ => by kernel_rfl
theorem Ty.zv131 : ∀ w, (zeroValue 131).run Tryz.prog w = .ok (.slice none 0 0) w := fun _ => by kernel_rfl
theorem Ty.un131 : Tryz.prog.underlying 131 = some (.slice 3) := by kernel_rfl
theorem Ty.ag137 : ∀ w, (isAgg 137).run Tryz.prog w = .ok false w := fun _ => by kernel_rfl
theorem Ty.sz137 : ∀ w, (sizeOf 137).run Tryz.prog w = .ok 1 w := fun _ => by kernel_rfl
theorem Ty.zv137 : ∀ w, (zeroValue 137).run Tryz.prog w = .ok (.int .i64 0) w := fun _ => by kernel_rfl
theorem Ty.ag144 : ∀ w, (isAgg 144).run Tryz.prog w = .ok false w := fun _ => by kernel_rfl
theorem Ty.sz144 : ∀ w, (sizeOf 144).run Tryz.prog w = .ok 1 w := fun _ => by kernel_rfl
theorem Ty.zv144 : ∀ w, (zeroValue 144).run Tryz.prog w = .ok (.int .u32 0) w := fun _ => by kernel_rfl
theorem Ty.ag146 : ∀ w, (isAgg 146).run Tryz.prog w = .ok false w := fun _ => by kernel_rfl
theorem Ty.sz146 : ∀ w, (sizeOf 146).run Tryz.prog w = .ok 1 w := fun _ => by kernel_rfl
theorem Ty.zv146 : ∀ w, (zeroValue 146).run Tryz.prog w = .ok (.int .u64 0) w := fun _ => by kernel_rfl
theorem Ty.ag148 : ∀ w, (isAgg 148).run Tryz.prog w = .ok false w := fun _ => by kernel_rfl
theorem Ty.sz148 : ∀ w, (sizeOf 148).run Tryz.prog w = .ok 1 w := fun _ => by kernel_rfl
theorem Ty.zv148 : ∀ w, (zeroValue 148).run Tryz.prog w = .ok (.int .u64 0) w := fun _ => by kernel_rfl
theorem Ty.ag152 : ∀ w, (isAgg 152).run Tryz.prog w = .ok false w := fun _ => by kernel_rfl
theorem Ty.sz152 : ∀ w, (sizeOf 152).run Tryz.prog w = .ok 1 w := fun _ => by kernel_rfl
theorem Ty.zv152 : ∀ w, (zeroValue 152).run Tryz.prog w = .ok (.pointer none) w := fun _ => by kernel_rfl
theorem En.f3 : ∀ args w, (callFunc 3 args).run Tryz.prog w = .ok (.enter 3 args) w := enters_of Tryz.func3 (by kernel_rfl) rfl
theorem En.f4 : ∀ args w, (callFunc 4 args).run Tryz.prog w = .ok (.enter 4 args) w := enters_of Tryz.func4 (by kernel_rfl) rfl
theorem En.f5 : ∀ args w, (callFunc 5 args).run Tryz.prog w = .ok (.enter 5 args) w := enters_of Tryz.func5 (by kernel_rfl) rfl
theorem En.f6 : ∀ args w, (callFunc 6 args).run Tryz.prog w = .ok (.enter 6 args) w := enters_of Tryz.func6 (by kernel_rfl) rfl
theorem En.f7 : ∀ args w, (callFunc 7 args).run Tryz.prog w = .ok (.enter 7 args) w := enters_of Tryz.func7 (by kernel_rfl) rfl
theorem En.f8 : ∀ args w, (callFunc 8 args).run Tryz.prog w = .ok (.enter 8 args) w := enters_of Tryz.func8 (by kernel_rfl) rfl
theorem En.f9 : ∀ args w, (callFunc 9 args).run Tryz.prog w = .ok (.enter 9 args) w := enters_of Tryz.func9 (by kernel_rfl) rfl
theorem En.f10 : ∀ args w, (callFunc 10 args).run Tryz.prog w = .ok (.enter 10 args) w := enters_of Tryz.func10 (by kernel_rfl) rfl
theorem En.f11 : ∀ args w, (callFunc 11 args).run Tryz.prog w = .ok (.enter 11 args) w := enters_of Tryz.func11 (by kernel_rfl) rfl
theorem En.f12 : ∀ args w, (callFunc 12 args).run Tryz.prog w = .ok (.enter 12 args) w := enters_of Tryz.func12 (by kernel_rfl) rfl
theorem En.f13 : ∀ args w, (callFunc 13 args).run Tryz.prog w = .ok (.enter 13 args) w := enters_of Tryz.func13 (by kernel_rfl) rfl
theorem En.f14 : ∀ args w, (callFunc 14 args).run Tryz.prog w = .ok (.enter 14 args) w := enters_of Tryz.func14 (by kernel_rfl) rfl
theorem En.f15 : ∀ args w, (callFunc 15 args).run Tryz.prog w = .ok (.enter 15 args) w := enters_of Tryz.func15 (by kernel_rfl) rfl
theorem En.f16 : ∀ args w, (callFunc 16 args).run Tryz.prog w = .ok (.enter 16 args) w := enters_of Tryz.func16 (by kernel_rfl) rfl
theorem En.f17 : ∀ args w, (callFunc 17 args).run Tryz.prog w = .ok (.enter 17 args) w := enters_of Tryz.func17 (by kernel_rfl) rfl
theorem En.f18 : ∀ args w, (callFunc 18 args).run Tryz.prog w = .ok (.enter 18 args) w := enters_of Tryz.func18 (by kernel_rfl) rfl
theorem En.f19 : ∀ args w, (callFunc 19 args).run Tryz.prog w = .ok (.enter 19 args) w := enters_of Tryz.func19 (by kernel_rfl) rfl
theorem En.f20 : ∀ args w, (callFunc 20 args).run Tryz.prog w = .ok (.enter 20 args) w := enters_of Tryz.func20 (by kernel_rfl) rfl
theorem En.f21 : ∀ args w, (callFunc 21 args).run Tryz.prog w = .ok (.enter 21 args) w := enters_of Tryz.func21 (by kernel_rfl) rfl
theorem En.f22 : ∀ args w, (callFunc 22 args).run Tryz.prog w = .ok (.enter 22 args) w := enters_of Tryz.func22 (by kernel_rfl) rfl
theorem En.f23 : ∀ args w, (callFunc 23 args).run Tryz.prog w = .ok (.enter 23 args) w := enters_of Tryz.func23 (by kernel_rfl) rfl
theorem En.f24 : ∀ args w, (callFunc 24 args).run Tryz.prog w = .ok (.enter 24 args) w := enters_of Tryz.func24 (by kernel_rfl) rfl
theorem En.f25 : ∀ args w, (callFunc 25 args).run Tryz.prog w = .ok (.enter 25 args) w := enters_of Tryz.func25 (by kernel_rfl) rfl
theorem En.f26 : ∀ args w, (callFunc 26 args).run Tryz.prog w = .ok (.enter 26 args) w := enters_of Tryz.func26 (by kernel_rfl) rfl
theorem En.f27 : ∀ args w, (callFunc 27 args).run Tryz.prog w = .ok (.enter 27 args) w := enters_of Tryz.func27 (by kernel_rfl) rfl
theorem En.f28 : ∀ args w, (callFunc 28 args).run Tryz.prog w = .ok (.enter 28 args) w := enters_of Tryz.func28 (by kernel_rfl) rfl
theorem En.f29 : ∀ args w, (callFunc 29 args).run Tryz.prog w = .ok (.enter 29 args) w := enters_of Tryz.func29 (by kernel_rfl) rfl
theorem En.f30 : ∀ args w, (callFunc 30 args).run Tryz.prog w = .ok (.enter 30 args) w := enters_of Tryz.func30 (by kernel_rfl) rfl
theorem En.f31 : ∀ args w, (callFunc 31 args).run Tryz.prog w = .ok (.enter 31 args) w := enters_of Tryz.func31 (by kernel_rfl) rfl
theorem En.f32 : ∀ args w, (callFunc 32 args).run Tryz.prog w = .ok (.enter 32 args) w := enters_of Tryz.func32 (by kernel_rfl) rfl
theorem En.f33 : ∀ args w, (callFunc 33 args).run Tryz.prog w = .ok (.enter 33 args) w := enters_of Tryz.func33 (by kernel_rfl) rfl
theorem En.f34 : ∀ args w, (callFunc 34 args).run Tryz.prog w = .ok (.enter 34 args) w := enters_of Tryz.func34 (by kernel_rfl) rfl
theorem En.f35 : ∀ args w, (callFunc 35 args).run Tryz.prog w = .ok (.enter 35 args) w := enters_of Tryz.func35 (by kernel_rfl) rfl
theorem En.f36 : ∀ args w, (callFunc 36 args).run Tryz.prog w = .ok (.enter 36 args) w := enters_of Tryz.func36 (by kernel_rfl) rfl
theorem En.f37 : ∀ args w, (callFunc 37 args).run Tryz.prog w = .ok (.enter 37 args) w := enters_of Tryz.func37 (by kernel_rfl) rfl
theorem En.f38 : ∀ args w, (callFunc 38 args).run Tryz.prog w = .ok (.enter 38 args) w := enters_of Tryz.func38 (by kernel_rfl) rfl
theorem En.f39 : ∀ args w, (callFunc 39 args).run Tryz.prog w = .ok (.enter 39 args) w := enters_of Tryz.func39 (by kernel_rfl) rfl
theorem En.f40 : ∀ args w, (callFunc 40 args).run Tryz.prog w = .ok (.enter 40 args) w := enters_of Tryz.func40 (by kernel_rfl) rfl
theorem En.f41 : ∀ args w, (callFunc 41 args).run Tryz.prog w = .ok (.enter 41 args) w := enters_of Tryz.func41 (by kernel_rfl) rfl
theorem En.f42 : ∀ args w, (callFunc 42 args).run Tryz.prog w = .ok (.enter 42 args) w := enters_of Tryz.func42 (by kernel_rfl) rfl
theorem En.f43 : ∀ args w, (callFunc 43 args).run Tryz.prog w = .ok (.enter 43 args) w := enters_of Tryz.func43 (by kernel_rfl) rfl
theorem En.f44 : ∀ args w, (callFunc 44 args).run Tryz.prog w = .ok (.enter 44 args) w := enters_of Tryz.func44 (by kernel_rfl) rfl
theorem En.f45 : ∀ args w, (callFunc 45 args).run Tryz.prog w = .ok (.enter 45 args) w := enters_of Tryz.func45 (by kernel_rfl) rfl
theorem En.f46 : ∀ args w, (callFunc 46 args).run Tryz.prog w = .ok (.enter 46 args) w := enters_of Tryz.func46 (by kernel_rfl) rfl
theorem En.f47 : ∀ args w, (callFunc 47 args).run Tryz.prog w = .ok (.enter 47 args) w := enters_of Tryz.func47 (by kernel_rfl) rfl
theorem En.f48 : ∀ args w, (callFunc 48 args).run Tryz.prog w = .ok (.enter 48 args) w := enters_of Tryz.func48 (by kernel_rfl) rfl
theorem En.f49 : ∀ args w, (callFunc 49 args).run Tryz.prog w = .ok (.enter 49 args) w := enters_of Tryz.func49 (by kernel_rfl) rfl
theorem En.f50 : ∀ args w, (callFunc 50 args).run Tryz.prog w = .ok (.enter 50 args) w := enters_of Tryz.func50 (by kernel_rfl) rfl
theorem En.f51 : ∀ args w, (callFunc 51 args).run Tryz.prog w = .ok (.enter 51 args) w := enters_of Tryz.func51 (by kernel_rfl) rfl
theorem En.f52 : ∀ args w, (callFunc 52 args).run Tryz.prog w = .ok (.enter 52 args) w := enters_of Tryz.func52 (by kernel_rfl) rfl
theorem En.f53 : ∀ args w, (callFunc 53 args).run Tryz.prog w = .ok (.enter 53 args) w := enters_of Tryz.func53 (by kernel_rfl) rfl
theorem En.f54 : ∀ args w, (callFunc 54 args).run Tryz.prog w = .ok (.enter 54 args) w := enters_of Tryz.func54 (by kernel_rfl) rfl
theorem En.f55 : ∀ args w, (callFunc 55 args).run Tryz.prog w = .ok (.enter 55 args) w := enters_of Tryz.func55 (by kernel_rfl) rfl
theorem En.f56 : ∀ args w, (callFunc 56 args).run Tryz.prog w = .ok (.enter 56 args) w := enters_of Tryz.func56 (by kernel_rfl) rfl
theorem En.f57 : ∀ args w, (callFunc 57 args).run Tryz.prog w = .ok (.enter 57 args) w := enters_of Tryz.func57 (by kernel_rfl) rfl
theorem En.f58 : ∀ args w, (callFunc 58 args).run Tryz.prog w = .ok (.enter 58 args) w := enters_of Tryz.func58 (by kernel_rfl) rfl
theorem En.f59 : ∀ args w, (callFunc 59 args).run Tryz.prog w = .ok (.enter 59 args) w := enters_of Tryz.func59 (by kernel_rfl) rfl
theorem En.f60 : ∀ args w, (callFunc 60 args).run Tryz.prog w = .ok (.enter 60 args) w := enters_of Tryz.func60 (by kernel_rfl) rfl
theorem En.f61 : ∀ args w, (callFunc 61 args).run Tryz.prog w = .ok (.enter 61 args) w := enters_of Tryz.func61 (by kernel_rfl) rfl
theorem En.f62 : ∀ args w, (callFunc 62 args).run Tryz.prog w = .ok (.enter 62 args) w := enters_of Tryz.func62 (by kernel_rfl) rfl
theorem En.f64 : ∀ args w, (callFunc 64 args).run Tryz.prog w = .ok (.enter 64 args) w := enters_of Tryz.func64 (by kernel_rfl) rfl
theorem En.f65 : ∀ args w, (callFunc 65 args).run Tryz.prog w = .ok (.enter 65 args) w := enters_of Tryz.func65 (by kernel_rfl) rfl
theorem En.f66 : ∀ args w, (callFunc 66 args).run Tryz.prog w = .ok (.enter 66 args) w := enters_of Tryz.func66 (by kernel_rfl) rfl
theorem En.f67 : ∀ args w, (callFunc 67 args).run Tryz.prog w = .ok (.enter 67 args) w := enters_of Tryz.func67 (by kernel_rfl) rfl
theorem En.f68 : ∀ args w, (callFunc 68 args).run Tryz.prog w = .ok (.enter 68 args) w := enters_of Tryz.func68 (by kernel_rfl) rfl
theorem En.f69 : ∀ args w, (callFunc 69 args).run Tryz.prog w = .ok (.enter 69 args) w := enters_of Tryz.func69 (by kernel_rfl) rfl
theorem En.f70 : ∀ args w, (callFunc 70 args).run Tryz.prog w = .ok (.enter 70 args) w := enters_of Tryz.func70 (by kernel_rfl) rfl
theorem En.f71 : ∀ args w, (callFunc 71 args).run Tryz.prog w = .ok (.enter 71 args) w := enters_of Tryz.func71 (by kernel_rfl) rfl
theorem En.f72 : ∀ args w, (callFunc 72 args).run Tryz.prog w = .ok (.enter 72 args) w := enters_of Tryz.func72 (by kernel_rfl) rfl
theorem En.f73 : ∀ args w, (callFunc 73 args).run Tryz.prog w = .ok (.enter 73 args) w := enters_of Tryz.func73 (by kernel_rfl) rfl
theorem En.f74 : ∀ args w, (callFunc 74 args).run Tryz.prog w = .ok (.enter 74 args) w := enters_of Tryz.func74 (by kernel_rfl) rfl
theorem En.f75 : ∀ args w, (callFunc 75 args).run Tryz.prog w = .ok (.enter 75 args) w := enters_of Tryz.func75 (by kernel_rfl) rfl
theorem En.f76 : ∀ args w, (callFunc 76 args).run Tryz.prog w = .ok (.enter 76 args) w := enters_of Tryz.func76 (by kernel_rfl) rfl
theorem En.f77 : ∀ args w, (callFunc 77 args).run Tryz.prog w = .ok (.enter 77 args) w := enters_of Tryz.func77 (by kernel_rfl) rfl
theorem En.f78 : ∀ args w, (callFunc 78 args).run Tryz.prog w = .ok (.enter 78 args) w := enters_of Tryz.func78 (by kernel_rfl) rfl
theorem En.f79 : ∀ args w, (callFunc 79 args).run Tryz.prog w = .ok (.enter 79 args) w := enters_of Tryz.func79 (by kernel_rfl) rfl
theorem En.f80 : ∀ args w, (callFunc 80 args).run Tryz.prog w = .ok (.enter 80 args) w := enters_of Tryz.func80 (by kernel_rfl) rfl
theorem En.f81 : ∀ args w, (callFunc 81 args).run Tryz.prog w = .ok (.enter 81 args) w := enters_of Tryz.func81 (by kernel_rfl) rfl
theorem En.f82 : ∀ args w, (callFunc 82 args).run Tryz.prog w = .ok (.enter 82 args) w := enters_of Tryz.func82 (by kernel_rfl) rfl
theorem En.f83 : ∀ args w, (callFunc 83 args).run Tryz.prog w = .ok (.enter 83 args) w := enters_of Tryz.func83 (by kernel_rfl) rfl
theorem En.f84 : ∀ args w, (callFunc 84 args).run Tryz.prog w = .ok (.enter 84 args) w := enters_of Tryz.func84 (by kernel_rfl) rfl
theorem En.f85 : ∀ args w, (callFunc 85 args).run Tryz.prog w = .ok (.enter 85 args) w := enters_of Tryz.func85 (by kernel_rfl) rfl
theorem En.f86 : ∀ args w, (callFunc 86 args).run Tryz.prog w = .ok (.enter 86 args) w := enters_of Tryz.func86 (by kernel_rfl) rfl
theorem En.f87 : ∀ args w, (callFunc 87 args).run Tryz.prog w = .ok (.enter 87 args) w := enters_of Tryz.func87 (by kernel_rfl) rfl
theorem En.f88 : ∀ args w, (callFunc 88 args).run Tryz.prog w = .ok (.enter 88 args) w := enters_of Tryz.func88 (by kernel_rfl) rfl
theorem En.f89 : ∀ args w, (callFunc 89 args).run Tryz.prog w = .ok (.enter 89 args) w := enters_of Tryz.func89 (by kernel_rfl) rfl
theorem En.f90 : ∀ args w, (callFunc 90 args).run Tryz.prog w = .ok (.enter 90 args) w := enters_of Tryz.func90 (by kernel_rfl) rfl
theorem En.f91 : ∀ args w, (callFunc 91 args).run Tryz.prog w = .ok (.enter 91 args) w := enters_of Tryz.func91 (by kernel_rfl) rfl
theorem En.f92 : ∀ args w, (callFunc 92 args).run Tryz.prog w = .ok (.enter 92 args) w := enters_of Tryz.func92 (by kernel_rfl) rfl
theorem En.f93 : ∀ args w, (callFunc 93 args).run Tryz.prog w = .ok (.enter 93 args) w := enters_of Tryz.func93 (by kernel_rfl) rfl
theorem En.f94 : ∀ args w, (callFunc 94 args).run Tryz.prog w = .ok (.enter 94 args) w := enters_of Tryz.func94 (by kernel_rfl) rfl
theorem En.f95 : ∀ args w, (callFunc 95 args).run Tryz.prog w = .ok (.enter 95 args) w := enters_of Tryz.func95 (by kernel_rfl) rfl
theorem En.f96 : ∀ args w, (callFunc 96 args).run Tryz.prog w = .ok (.enter 96 args) w := enters_of Tryz.func96 (by kernel_rfl) rfl
theorem En.f97 : ∀ args w, (callFunc 97 args).run Tryz.prog w = .ok (.enter 97 args) w := enters_of Tryz.func97 (by kernel_rfl) rfl
theorem En.f98 : ∀ args w, (callFunc 98 args).run Tryz.prog w = .ok (.enter 98 args) w := enters_of Tryz.func98 (by kernel_rfl) rfl
theorem En.f99 : ∀ args w, (callFunc 99 args).run Tryz.prog w = .ok (.enter 99 args) w := enters_of Tryz.func99 (by kernel_rfl) rfl
theorem En.f100 : ∀ args w, (callFunc 100 args).run Tryz.prog w = .ok (.enter 100 args) w := enters_of Tryz.func100 (by kernel_rfl) rfl
theorem En.f101 : ∀ args w, (callFunc 101 args).run Tryz.prog w = .ok (.enter 101 args) w := enters_of Tryz.func101 (by kernel_rfl) rfl
theorem En.f102 : ∀ args w, (callFunc 102 args).run Tryz.prog w = .ok (.enter 102 args) w := enters_of Tryz.func102 (by kernel_rfl) rfl
theorem En.f103 : ∀ args w, (callFunc 103 args).run Tryz.prog w = .ok (.enter 103 args) w := enters_of Tryz.func103 (by kernel_rfl) rfl
theorem En.f104 : ∀ args w, (callFunc 104 args).run Tryz.prog w = .ok (.enter 104 args) w := enters_of Tryz.func104 (by kernel_rfl) rfl
theorem En.f105 : ∀ args w, (callFunc 105 args).run Tryz.prog w = .ok (.enter 105 args) w := enters_of Tryz.func105 (by kernel_rfl) rfl
theorem En.f106 : ∀ args w, (callFunc 106 args).run Tryz.prog w = .ok (.enter 106 args) w := enters_of Tryz.func106 (by kernel_rfl) rfl
theorem En.f107 : ∀ args w, (callFunc 107 args).run Tryz.prog w = .ok (.enter 107 args) w := enters_of Tryz.func107 (by kernel_rfl) rfl
theorem En.f108 : ∀ args w, (callFunc 108 args).run Tryz.prog w = .ok (.enter 108 args) w := enters_of Tryz.func108 (by kernel_rfl) rfl
end Go.Proofs.YtefhfoioeoijlaaGreat
