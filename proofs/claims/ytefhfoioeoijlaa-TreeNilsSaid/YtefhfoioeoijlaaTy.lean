/- Facts on the types and functions of this program, each by the kernel. -/
import Derived.Test.YtefhfoioeoijlaaStep
import Derived.Test.YtefhfoioeoijlaaProg
set_option linter.unusedVariables false
namespace Go.Proofs.Ytefhfoioeoijlaa
open Go Go.RowKit Go.Sort
theorem Ty.ag1 : ∀ w, (isAgg 1).run Try.prog w = .ok false w := fun _ => by kernel_rfl
theorem Ty.sz1 : ∀ w, (sizeOf 1).run Try.prog w = .ok 1 w := fun _ => by kernel_rfl
theorem Ty.zv1 : ∀ w, (zeroValue 1).run Try.prog w = .ok (.nilFunc) w := fun _ => by kernel_rfl
theorem Ty.ag2 : ∀ w, (isAgg 2).run Try.prog w = .ok false w := fun _ => by kernel_rfl
theorem Ty.sz2 : ∀ w, (sizeOf 2).run Try.prog w = .ok 1 w := fun _ => by kernel_rfl
theorem Ty.zv2 : ∀ w, (zeroValue 2).run Try.prog w = .ok (.int .i64 0) w := fun _ => by kernel_rfl
theorem Ty.ag3 : ∀ w, (isAgg 3).run Try.prog w = .ok false w := fun _ => by kernel_rfl
theorem Ty.sz3 : ∀ w, (sizeOf 3).run Try.prog w = .ok 1 w := fun _ => by kernel_rfl
theorem Ty.zv3 : ∀ w, (zeroValue 3).run Try.prog w = .ok (.int .i64 0) w := fun _ => by kernel_rfl
theorem Ty.ag4 : ∀ w, (isAgg 4).run Try.prog w = .ok false w := fun _ => by kernel_rfl
theorem Ty.sz4 : ∀ w, (sizeOf 4).run Try.prog w = .ok 1 w := fun _ => by kernel_rfl
theorem Ty.zv4 : ∀ w, (zeroValue 4).run Try.prog w = .ok (.bool false) w := fun _ => by kernel_rfl
theorem Ty.ag5 : ∀ w, (isAgg 5).run Try.prog w = .ok false w := fun _ => by kernel_rfl
theorem Ty.sz5 : ∀ w, (sizeOf 5).run Try.prog w = .ok 1 w := fun _ => by kernel_rfl
theorem Ty.zv5 : ∀ w, (zeroValue 5).run Try.prog w = .ok (.int .u8 0) w := fun _ => by kernel_rfl
theorem Ty.ag9 : ∀ w, (isAgg 9).run Try.prog w = .ok false w := fun _ => by kernel_rfl
theorem Ty.sz9 : ∀ w, (sizeOf 9).run Try.prog w = .ok 1 w := fun _ => by kernel_rfl
theorem Ty.zv9 : ∀ w, (zeroValue 9).run Try.prog w = .ok (.string (⟨#[]⟩)) w := fun _ => by kernel_rfl
theorem Ty.un9 : Try.prog.underlying 9 = some .string := by kernel_rfl
theorem Ty.ag21 : ∀ w, (isAgg 21).run Try.prog w = .ok false w := fun _ => by kernel_rfl
theorem Ty.sz21 : ∀ w, (sizeOf 21).run Try.prog w = .ok 1 w := fun _ => by kernel_rfl
theorem Ty.zv21 : ∀ w, (zeroValue 21).run Try.prog w = .ok (.int .i32 0) w := fun _ => by kernel_rfl
theorem Ty.ag22 : ∀ w, (isAgg 22).run Try.prog w = .ok false w := fun _ => by kernel_rfl
theorem Ty.sz22 : ∀ w, (sizeOf 22).run Try.prog w = .ok 1 w := fun _ => by kernel_rfl
theorem Ty.zv22 : ∀ w, (zeroValue 22).run Try.prog w = .ok (.slice none 0 0) w := fun _ => by kernel_rfl
theorem Ty.un22 : Try.prog.underlying 22 = some (.slice 40) := by kernel_rfl
theorem Ty.ag24 : ∀ w, (isAgg 24).run Try.prog w = .ok true w := fun _ => by kernel_rfl
theorem Ty.sz24 : ∀ w, (sizeOf 24).run Try.prog w = .ok 2 w := fun _ => by kernel_rfl
theorem Ty.zv24 : ∀ w, (zeroValue 24).run Try.prog w = .ok (.agg #[.int .i64 0, .int .i64 0]) w := fun _ => by kernel_rfl
noncomputable def Ty.fs24 : List Field := match Try.prog.underlying 24 with | some (.struct fs) => fs.toList | _ => []
theorem Ty.un24 : Try.prog.underlying 24 = some (.struct Ty.fs24.toArray) := by kernel_rfl
theorem Ty.pl24 : ∀ w, (Ty.fs24.mapM fun f => Prod.mk f.offset <$> sizeOf f.type : Sem (List (Nat × Nat))).run Try.prog w = .ok [(0, 1), (1, 1)] w := fun _ => by kernel_rfl
theorem Ty.ag27 : ∀ w, (isAgg 27).run Try.prog w = .ok false w := fun _ => by kernel_rfl
theorem Ty.sz27 : ∀ w, (sizeOf 27).run Try.prog w = .ok 1 w := fun _ => by kernel_rfl
theorem Ty.zv27 : ∀ w, (zeroValue 27).run Try.prog w = .ok (.pointer none) w := fun _ => by kernel_rfl
theorem Ty.ag29 : ∀ w, (isAgg 29).run Try.prog w = .ok false w := fun _ => by kernel_rfl
theorem Ty.sz29 : ∀ w, (sizeOf 29).run Try.prog w = .ok 1 w := fun _ => by kernel_rfl
theorem Ty.zv29 : ∀ w, (zeroValue 29).run Try.prog w = .ok (.pointer none) w := fun _ => by kernel_rfl
theorem Ty.ag30 : ∀ w, (isAgg 30).run Try.prog w = .ok false w := fun _ => by kernel_rfl
theorem Ty.sz30 : ∀ w, (sizeOf 30).run Try.prog w = .ok 1 w := fun _ => by kernel_rfl
theorem Ty.zv30 : ∀ w, (zeroValue 30).run Try.prog w = .ok (.slice none 0 0) w := fun _ => by kernel_rfl
theorem Ty.un30 : Try.prog.underlying 30 = some (.slice 41) := by kernel_rfl
theorem Ty.ag32 : ∀ w, (isAgg 32).run Try.prog w = .ok true w := fun _ => by kernel_rfl
theorem Ty.sz32 : ∀ w, (sizeOf 32).run Try.prog w = .ok 1 w := fun _ => by kernel_rfl
theorem Ty.zv32 : ∀ w, (zeroValue 32).run Try.prog w = .ok (.agg #[.slice none 0 0]) w := fun _ => by kernel_rfl
noncomputable def Ty.fs32 : List Field := match Try.prog.underlying 32 with | some (.struct fs) => fs.toList | _ => []
theorem Ty.un32 : Try.prog.underlying 32 = some (.struct Ty.fs32.toArray) := by kernel_rfl
theorem Ty.pl32 : ∀ w, (Ty.fs32.mapM fun f => Prod.mk f.offset <$> sizeOf f.type : Sem (List (Nat × Nat))).run Try.prog w = .ok [(0, 1)] w := fun _ => by kernel_rfl
theorem Ty.ag33 : ∀ w, (isAgg 33).run Try.prog w = .ok false w := fun _ => by kernel_rfl
theorem Ty.sz33 : ∀ w, (sizeOf 33).run Try.prog w = .ok 1 w := fun _ => by kernel_rfl
theorem Ty.zv33 : ∀ w, (zeroValue 33).run Try.prog w = .ok (.slice none 0 0) w := fun _ => by kernel_rfl
theorem Ty.un33 : Try.prog.underlying 33 = some (.slice 5) := by kernel_rfl
theorem Ty.ag35 : ∀ w, (isAgg 35).run Try.prog w = .ok true w := fun _ => by kernel_rfl
theorem Ty.sz35 : ∀ w, (sizeOf 35).run Try.prog w = .ok 10 w := fun _ => by kernel_rfl
theorem Ty.zv35 : ∀ w, (zeroValue 35).run Try.prog w = .ok (.agg #[.int .i64 0, .int .i64 0, .int .i64 0, .int .i64 0, .string (⟨#[]⟩), .bool false, .bool false, .slice none 0 0, .int .i64 0, .int .i64 0]) w := fun _ => by kernel_rfl
noncomputable def Ty.fs35 : List Field := match Try.prog.underlying 35 with | some (.struct fs) => fs.toList | _ => []
theorem Ty.un35 : Try.prog.underlying 35 = some (.struct Ty.fs35.toArray) := by kernel_rfl
theorem Ty.pl35 : ∀ w, (Ty.fs35.mapM fun f => Prod.mk f.offset <$> sizeOf f.type : Sem (List (Nat × Nat))).run Try.prog w = .ok [(0, 2), (2, 2), (4, 1), (5, 1), (6, 1), (7, 1), (8, 2)] w := fun _ => by kernel_rfl
theorem Ty.ag36 : ∀ w, (isAgg 36).run Try.prog w = .ok false w := fun _ => by kernel_rfl
theorem Ty.sz36 : ∀ w, (sizeOf 36).run Try.prog w = .ok 1 w := fun _ => by kernel_rfl
theorem Ty.zv36 : ∀ w, (zeroValue 36).run Try.prog w = .ok (.int .i64 0) w := fun _ => by kernel_rfl
theorem Ty.ag40 : ∀ w, (isAgg 40).run Try.prog w = .ok true w := fun _ => by kernel_rfl
theorem Ty.sz40 : ∀ w, (sizeOf 40).run Try.prog w = .ok 10 w := fun _ => by kernel_rfl
theorem Ty.zv40 : ∀ w, (zeroValue 40).run Try.prog w = .ok (.agg #[.int .i64 0, .int .i64 0, .int .i64 0, .int .i64 0, .int .i64 0, .int .i64 0, .int .i64 0, .bool false, .string (⟨#[]⟩), .slice none 0 0]) w := fun _ => by kernel_rfl
noncomputable def Ty.fs40 : List Field := match Try.prog.underlying 40 with | some (.struct fs) => fs.toList | _ => []
theorem Ty.un40 : Try.prog.underlying 40 = some (.struct Ty.fs40.toArray) := by kernel_rfl
theorem Ty.pl40 : ∀ w, (Ty.fs40.mapM fun f => Prod.mk f.offset <$> sizeOf f.type : Sem (List (Nat × Nat))).run Try.prog w = .ok [(0, 1), (1, 2), (3, 2), (5, 2), (7, 1), (8, 1), (9, 1)] w := fun _ => by kernel_rfl
theorem Ty.ag41 : ∀ w, (isAgg 41).run Try.prog w = .ok true w := fun _ => by kernel_rfl
theorem Ty.sz41 : ∀ w, (sizeOf 41).run Try.prog w = .ok 10 w := fun _ => by kernel_rfl
theorem Ty.zv41 : ∀ w, (zeroValue 41).run Try.prog w = .ok (.agg #[.int .i64 0, .int .i64 0, .int .i64 0, .int .i64 0, .string (⟨#[]⟩), .bool false, .bool false, .slice none 0 0, .int .i64 0, .int .i64 0]) w := fun _ => by kernel_rfl
noncomputable def Ty.fs41 : List Field := match Try.prog.underlying 41 with | some (.struct fs) => fs.toList | _ => []
theorem Ty.un41 : Try.prog.underlying 41 = some (.struct Ty.fs41.toArray) := by kernel_rfl
theorem Ty.pl41 : ∀ w, (Ty.fs41.mapM fun f => Prod.mk f.offset <$> sizeOf f.type : Sem (List (Nat × Nat))).run Try.prog w = .ok [(0, 2), (2, 2), (4, 1), (5, 1), (6, 1), (7, 1), (8, 2)] w := fun _ => by kernel_rfl
theorem Ty.ag48 : ∀ w, (isAgg 48).run Try.prog w = .ok false w := fun _ => by kernel_rfl
theorem Ty.sz48 : ∀ w, (sizeOf 48).run Try.prog w = .ok 1 w := fun _ => by kernel_rfl
theorem Ty.zv48 : ∀ w, (zeroValue 48).run Try.prog w = .ok (.slice none 0 0) w := fun _ => by kernel_rfl
theorem Ty.un48 : Try.prog.underlying 48 = some (.slice 35) := by kernel_rfl
theorem Ty.ag60 : ∀ w, (isAgg 60).run Try.prog w = .ok false w := fun _ => by kernel_rfl
theorem Ty.sz60 : ∀ w, (sizeOf 60).run Try.prog w = .ok 1 w := fun _ => by kernel_rfl
theorem Ty.zv60 : ∀ w, (zeroValue 60).run Try.prog w = .ok (.slice none 0 0) w := fun _ => by kernel_rfl
theorem Ty.un60 : Try.prog.underlying 60 = some (.slice 67) := by kernel_rfl
theorem Ty.ag62 : ∀ w, (isAgg 62).run Try.prog w = .ok false w := fun _ => by kernel_rfl
theorem Ty.sz62 : ∀ w, (sizeOf 62).run Try.prog w = .ok 1 w := fun _ => by kernel_rfl
theorem Ty.zv62 : ∀ w, (zeroValue 62).run Try.prog w = .ok (.pointer none) w := fun _ => by kernel_rfl
theorem Ty.ag67 : ∀ w, (isAgg 67).run Try.prog w = .ok true w := fun _ => by kernel_rfl
theorem Ty.sz67 : ∀ w, (sizeOf 67).run Try.prog w = .ok 11 w := fun _ => by kernel_rfl
theorem Ty.zv67 : ∀ w, (zeroValue 67).run Try.prog w = .ok (.agg #[.bool false, .int .i64 0, .int .i64 0, .int .i64 0, .int .i64 0, .int .i64 0, .int .i64 0, .int .i64 0, .bool false, .string (⟨#[]⟩), .slice none 0 0]) w := fun _ => by kernel_rfl
noncomputable def Ty.fs67 : List Field := match Try.prog.underlying 67 with | some (.struct fs) => fs.toList | _ => []
theorem Ty.un67 : Try.prog.underlying 67 = some (.struct Ty.fs67.toArray) := by kernel_rfl
theorem Ty.pl67 : ∀ w, (Ty.fs67.mapM fun f => Prod.mk f.offset <$> sizeOf f.type : Sem (List (Nat × Nat))).run Try.prog w = .ok [(0, 1), (1, 10)] w := fun _ => by kernel_rfl
theorem Ty.ag75 : ∀ w, (isAgg 75).run Try.prog w = .ok false w := fun _ => by kernel_rfl
theorem Ty.sz75 : ∀ w, (sizeOf 75).run Try.prog w = .ok 1 w := fun _ => by kernel_rfl
theorem Ty.zv75 : ∀ w, (zeroValue 75).run Try.prog w = .ok (.slice none 0 0) w := fun _ => by kernel_rfl
theorem Ty.un75 : Try.prog.underlying 75 = some (.slice 3) := by kernel_rfl
theorem Ty.ag85 : ∀ w, (isAgg 85).run Try.prog w = .ok false w := fun _ => by kernel_rfl
theorem Ty.sz85 : ∀ w, (sizeOf 85).run Try.prog w = .ok 1 w := fun _ => by kernel_rfl
theorem Ty.zv85 : ∀ w, (zeroValue 85).run Try.prog w = .ok (.map none) w := fun _ => by kernel_rfl
theorem Ty.un85 : Try.prog.underlying 85 = some (.map 24 35) := by kernel_rfl
theorem Ty.ag87 : ∀ w, (isAgg 87).run Try.prog w = .ok true w := fun _ => by kernel_rfl
theorem Ty.sz87 : ∀ w, (sizeOf 87).run Try.prog w = .ok 1 w := fun _ => by kernel_rfl
theorem Ty.zv87 : ∀ w, (zeroValue 87).run Try.prog w = .ok (.agg #[.map none]) w := fun _ => by kernel_rfl
noncomputable def Ty.fs87 : List Field := match Try.prog.underlying 87 with | some (.struct fs) => fs.toList | _ => []
theorem Ty.un87 : Try.prog.underlying 87 = some (.struct Ty.fs87.toArray) := by kernel_rfl
theorem Ty.pl87 : ∀ w, (Ty.fs87.mapM fun f => Prod.mk f.offset <$> sizeOf f.type : Sem (List (Nat × Nat))).run Try.prog w = .ok [(0, 1)] w := fun _ => by kernel_rfl
theorem Ty.ag94 : ∀ w, (isAgg 94).run Try.prog w = .ok false w := fun _ => by kernel_rfl
theorem Ty.sz94 : ∀ w, (sizeOf 94).run Try.prog w = .ok 1 w := fun _ => by kernel_rfl
theorem Ty.zv94 : ∀ w, (zeroValue 94).run Try.prog w = .ok (.nilFunc) w := fun _ => by kernel_rfl
theorem Ty.ag97 : ∀ w, (isAgg 97).run Try.prog w = .ok false w := fun _ => by kernel_rfl
theorem Ty.sz97 : ∀ w, (sizeOf 97).run Try.prog w = .ok 1 w := fun _ => by kernel_rfl
theorem Ty.zv97 : ∀ w, (zeroValue 97).run Try.prog w = .ok (.slice none 0 0) w := fun _ => by kernel_rfl
theorem Ty.un97 : Try.prog.underlying 97 = some (.slice 101) := by kernel_rfl
theorem Ty.ag99 : ∀ w, (isAgg 99).run Try.prog w = .ok true w := fun _ => by kernel_rfl
theorem Ty.sz99 : ∀ w, (sizeOf 99).run Try.prog w = .ok 2 w := fun _ => by kernel_rfl
theorem Ty.zv99 : ∀ w, (zeroValue 99).run Try.prog w = .ok (.agg #[.slice none 0 0, .pointer none]) w := fun _ => by kernel_rfl
noncomputable def Ty.fs99 : List Field := match Try.prog.underlying 99 with | some (.struct fs) => fs.toList | _ => []
theorem Ty.un99 : Try.prog.underlying 99 = some (.struct Ty.fs99.toArray) := by kernel_rfl
theorem Ty.pl99 : ∀ w, (Ty.fs99.mapM fun f => Prod.mk f.offset <$> sizeOf f.type : Sem (List (Nat × Nat))).run Try.prog w = .ok [(0, 1), (1, 1)] w := fun _ => by kernel_rfl
theorem Ty.ag101 : ∀ w, (isAgg 101).run Try.prog w = .ok true w := fun _ => by kernel_rfl
theorem Ty.sz101 : ∀ w, (sizeOf 101).run Try.prog w = .ok 22 w := fun _ => by kernel_rfl
theorem Ty.zv101 : ∀ w, (zeroValue 101).run Try.prog w = .ok (.agg #[.int .i64 0, .int .i64 0, .int .i64 0, .int .i64 0, .int .i64 0, .int .i64 0, .int .i64 0, .bool false, .string (⟨#[]⟩), .slice none 0 0, .int .i64 0, .int .i64 0, .int .i64 0, .int .i64 0, .string (⟨#[]⟩), .bool false, .bool false, .slice none 0 0, .int .i64 0, .int .i64 0, .bool false, .bool false]) w := fun _ => by kernel_rfl
noncomputable def Ty.fs101 : List Field := match Try.prog.underlying 101 with | some (.struct fs) => fs.toList | _ => []
theorem Ty.un101 : Try.prog.underlying 101 = some (.struct Ty.fs101.toArray) := by kernel_rfl
theorem Ty.pl101 : ∀ w, (Ty.fs101.mapM fun f => Prod.mk f.offset <$> sizeOf f.type : Sem (List (Nat × Nat))).run Try.prog w = .ok [(0, 10), (10, 10), (20, 1), (21, 1)] w := fun _ => by kernel_rfl
theorem Ty.ag107 : ∀ w, (isAgg 107).run Try.prog w = .ok false w := fun _ => by kernel_rfl
theorem Ty.sz107 : ∀ w, (sizeOf 107).run Try.prog w = .ok 1 w := fun _ => by kernel_rfl
theorem Ty.zv107 : ∀ w, (zeroValue 107).run Try.prog w = .ok (.nilFunc) w := fun _ => by kernel_rfl
theorem Ty.ag109 : ∀ w, (isAgg 109).run Try.prog w = .ok false w := fun _ => by kernel_rfl
theorem Ty.sz109 : ∀ w, (sizeOf 109).run Try.prog w = .ok 1 w := fun _ => by kernel_rfl
theorem Ty.zv109 : ∀ w, (zeroValue 109).run Try.prog w = .ok (.nilFunc) w := fun _ => by kernel_rfl
theorem Ty.ag112 : ∀ w, (isAgg 112).run Try.prog w = .ok false w := fun _ => by kernel_rfl
theorem Ty.sz112 : ∀ w, (sizeOf 112).run Try.prog w = .ok 1 w := fun _ => by kernel_rfl
theorem Ty.zv112 : ∀ w, (zeroValue 112).run Try.prog w = .ok (.string (⟨#[]⟩)) w := fun _ => by kernel_rfl
theorem Ty.un112 : Try.prog.underlying 112 = some .string := by kernel_rfl
theorem Ty.ag114 : ∀ w, (isAgg 114).run Try.prog w = .ok false w := fun _ => by kernel_rfl
theorem Ty.sz114 : ∀ w, (sizeOf 114).run Try.prog w = .ok 1 w := fun _ => by kernel_rfl
theorem Ty.zv114 : ∀ w, (zeroValue 114).run Try.prog w = .ok (.slice none 0 0) w := fun _ => by kernel_rfl
theorem Ty.un114 : Try.prog.underlying 114 = some (.slice 24) := by kernel_rfl
theorem Ty.ag117 : ∀ w, (isAgg 117).run Try.prog w = .ok false w := fun _ => by kernel_rfl
theorem Ty.sz117 : ∀ w, (sizeOf 117).run Try.prog w = .ok 1 w := fun _ => by kernel_rfl
theorem Ty.zv117 : ∀ w, (zeroValue 117).run Try.prog w = .ok (.nilFunc) w := fun _ => by kernel_rfl
theorem Ty.ag119 : ∀ w, (isAgg 119).run Try.prog w = .ok false w := fun _ => by kernel_rfl
theorem Ty.sz119 : ∀ w, (sizeOf 119).run Try.prog w = .ok 1 w := fun _ => by kernel_rfl
theorem Ty.zv119 : ∀ w, (zeroValue 119).run Try.prog w = .ok (.nilFunc) w := fun _ => by kernel_rfl
theorem Ty.ag122 : ∀ w, (isAgg 122).run Try.prog w = .ok false w := fun _ => by kernel_rfl
theorem Ty.sz122 : ∀ w, (sizeOf 122).run Try.prog w = .ok 1 w := fun _ => by kernel_rfl
theorem Ty.zv122 : ∀ w, (zeroValue 122).run Try.prog w = .ok (.nilFunc) w := fun _ => by kernel_rfl
theorem Ty.ag125 : ∀ w, (isAgg 125).run Try.prog w = .ok false w := fun _ => by kernel_rfl
theorem Ty.sz125 : ∀ w, (sizeOf 125).run Try.prog w = .ok 1 w := fun _ => by kernel_rfl
theorem Ty.zv125 : ∀ w, (zeroValue 125).run Try.prog w = .ok (.nilFunc) w := fun _ => by kernel_rfl
theorem Ty.ag131 : ∀ w, (isAgg 131).run Try.prog w = .ok false w := fun _ => by kernel_rfl
theorem Ty.sz131 : ∀ w, (sizeOf 131).run Try.prog w = .ok 1 w := fun _ => by kernel_rfl
theorem Ty.zv131 : ∀ w, (zeroValue 131).run Try.prog w = .ok (.pointer none) w := fun _ => by kernel_rfl
theorem Ty.ag138 : ∀ w, (isAgg 138).run Try.prog w = .ok false w := fun _ => by kernel_rfl
theorem Ty.sz138 : ∀ w, (sizeOf 138).run Try.prog w = .ok 1 w := fun _ => by kernel_rfl
theorem Ty.zv138 : ∀ w, (zeroValue 138).run Try.prog w = .ok (.nilFunc) w := fun _ => by kernel_rfl
theorem Ty.ag145 : ∀ w, (isAgg 145).run Try.prog w = .ok false w := fun _ => by kernel_rfl
theorem Ty.sz145 : ∀ w, (sizeOf 145).run Try.prog w = .ok 1 w := fun _ => by kernel_rfl
theorem Ty.zv145 : ∀ w, (zeroValue 145).run Try.prog w = .ok (.int .u64 0) w := fun _ => by kernel_rfl
theorem Ty.ag158 : ∀ w, (isAgg 158).run Try.prog w = .ok false w := fun _ => by kernel_rfl
theorem Ty.sz158 : ∀ w, (sizeOf 158).run Try.prog w = .ok 1 w := fun _ => by kernel_rfl
theorem Ty.zv158 : ∀ w, (zeroValue 158).run Try.prog w = .ok (.int .i64 0) w := fun _ => by kernel_rfl
theorem Ty.ag165 : ∀ w, (isAgg 165).run Try.prog w = .ok false w := fun _ => by kernel_rfl
theorem Ty.sz165 : ∀ w, (sizeOf 165).run Try.prog w = .ok 1 w := fun _ => by kernel_rfl
theorem Ty.zv165 : ∀ w, (zeroValue 165).run Try.prog w = .ok (.int .u32 0) w := fun _ => by kernel_rfl
theorem Ty.ag167 : ∀ w, (isAgg 167).run Try.prog w = .ok false w := fun _ => by kernel_rfl
theorem Ty.sz167 : ∀ w, (sizeOf 167).run Try.prog w = .ok 1 w := fun _ => by kernel_rfl
theorem Ty.zv167 : ∀ w, (zeroValue 167).run Try.prog w = .ok (.int .u64 0) w := fun _ => by kernel_rfl
theorem Ty.ag170 : ∀ w, (isAgg 170).run Try.prog w = .ok false w := fun _ => by kernel_rfl
theorem Ty.sz170 : ∀ w, (sizeOf 170).run Try.prog w = .ok 1 w := fun _ => by kernel_rfl
theorem Ty.zv170 : ∀ w, (zeroValue 170).run Try.prog w = .ok (.int .u64 0) w := fun _ => by kernel_rfl
theorem Ty.ag174 : ∀ w, (isAgg 174).run Try.prog w = .ok false w := fun _ => by kernel_rfl
theorem Ty.sz174 : ∀ w, (sizeOf 174).run Try.prog w = .ok 1 w := fun _ => by kernel_rfl
theorem Ty.zv174 : ∀ w, (zeroValue 174).run Try.prog w = .ok (.pointer none) w := fun _ => by kernel_rfl
theorem En.f3 : ∀ args w, (callFunc 3 args).run Try.prog w = .ok (.enter 3 args) w := enters_of Try.func3 (by kernel_rfl) rfl
theorem En.f4 : ∀ args w, (callFunc 4 args).run Try.prog w = .ok (.enter 4 args) w := enters_of Try.func4 (by kernel_rfl) rfl
theorem En.f5 : ∀ args w, (callFunc 5 args).run Try.prog w = .ok (.enter 5 args) w := enters_of Try.func5 (by kernel_rfl) rfl
theorem En.f6 : ∀ args w, (callFunc 6 args).run Try.prog w = .ok (.enter 6 args) w := enters_of Try.func6 (by kernel_rfl) rfl
theorem En.f7 : ∀ args w, (callFunc 7 args).run Try.prog w = .ok (.enter 7 args) w := enters_of Try.func7 (by kernel_rfl) rfl
theorem En.f8 : ∀ args w, (callFunc 8 args).run Try.prog w = .ok (.enter 8 args) w := enters_of Try.func8 (by kernel_rfl) rfl
theorem En.f9 : ∀ args w, (callFunc 9 args).run Try.prog w = .ok (.enter 9 args) w := enters_of Try.func9 (by kernel_rfl) rfl
theorem En.f10 : ∀ args w, (callFunc 10 args).run Try.prog w = .ok (.enter 10 args) w := enters_of Try.func10 (by kernel_rfl) rfl
theorem En.f11 : ∀ args w, (callFunc 11 args).run Try.prog w = .ok (.enter 11 args) w := enters_of Try.func11 (by kernel_rfl) rfl
theorem En.f12 : ∀ args w, (callFunc 12 args).run Try.prog w = .ok (.enter 12 args) w := enters_of Try.func12 (by kernel_rfl) rfl
theorem En.f13 : ∀ args w, (callFunc 13 args).run Try.prog w = .ok (.enter 13 args) w := enters_of Try.func13 (by kernel_rfl) rfl
theorem En.f14 : ∀ args w, (callFunc 14 args).run Try.prog w = .ok (.enter 14 args) w := enters_of Try.func14 (by kernel_rfl) rfl
theorem En.f15 : ∀ args w, (callFunc 15 args).run Try.prog w = .ok (.enter 15 args) w := enters_of Try.func15 (by kernel_rfl) rfl
theorem En.f16 : ∀ args w, (callFunc 16 args).run Try.prog w = .ok (.enter 16 args) w := enters_of Try.func16 (by kernel_rfl) rfl
theorem En.f17 : ∀ args w, (callFunc 17 args).run Try.prog w = .ok (.enter 17 args) w := enters_of Try.func17 (by kernel_rfl) rfl
theorem En.f18 : ∀ args w, (callFunc 18 args).run Try.prog w = .ok (.enter 18 args) w := enters_of Try.func18 (by kernel_rfl) rfl
theorem En.f19 : ∀ args w, (callFunc 19 args).run Try.prog w = .ok (.enter 19 args) w := enters_of Try.func19 (by kernel_rfl) rfl
theorem En.f20 : ∀ args w, (callFunc 20 args).run Try.prog w = .ok (.enter 20 args) w := enters_of Try.func20 (by kernel_rfl) rfl
theorem En.f21 : ∀ args w, (callFunc 21 args).run Try.prog w = .ok (.enter 21 args) w := enters_of Try.func21 (by kernel_rfl) rfl
theorem En.f22 : ∀ args w, (callFunc 22 args).run Try.prog w = .ok (.enter 22 args) w := enters_of Try.func22 (by kernel_rfl) rfl
theorem En.f23 : ∀ args w, (callFunc 23 args).run Try.prog w = .ok (.enter 23 args) w := enters_of Try.func23 (by kernel_rfl) rfl
theorem En.f24 : ∀ args w, (callFunc 24 args).run Try.prog w = .ok (.enter 24 args) w := enters_of Try.func24 (by kernel_rfl) rfl
theorem En.f25 : ∀ args w, (callFunc 25 args).run Try.prog w = .ok (.enter 25 args) w := enters_of Try.func25 (by kernel_rfl) rfl
theorem En.f26 : ∀ args w, (callFunc 26 args).run Try.prog w = .ok (.enter 26 args) w := enters_of Try.func26 (by kernel_rfl) rfl
theorem En.f27 : ∀ args w, (callFunc 27 args).run Try.prog w = .ok (.enter 27 args) w := enters_of Try.func27 (by kernel_rfl) rfl
theorem En.f28 : ∀ args w, (callFunc 28 args).run Try.prog w = .ok (.enter 28 args) w := enters_of Try.func28 (by kernel_rfl) rfl
theorem En.f29 : ∀ args w, (callFunc 29 args).run Try.prog w = .ok (.enter 29 args) w := enters_of Try.func29 (by kernel_rfl) rfl
theorem En.f30 : ∀ args w, (callFunc 30 args).run Try.prog w = .ok (.enter 30 args) w := enters_of Try.func30 (by kernel_rfl) rfl
theorem En.f31 : ∀ args w, (callFunc 31 args).run Try.prog w = .ok (.enter 31 args) w := enters_of Try.func31 (by kernel_rfl) rfl
theorem En.f32 : ∀ args w, (callFunc 32 args).run Try.prog w = .ok (.enter 32 args) w := enters_of Try.func32 (by kernel_rfl) rfl
theorem En.f33 : ∀ args w, (callFunc 33 args).run Try.prog w = .ok (.enter 33 args) w := enters_of Try.func33 (by kernel_rfl) rfl
theorem En.f34 : ∀ args w, (callFunc 34 args).run Try.prog w = .ok (.enter 34 args) w := enters_of Try.func34 (by kernel_rfl) rfl
theorem En.f35 : ∀ args w, (callFunc 35 args).run Try.prog w = .ok (.enter 35 args) w := enters_of Try.func35 (by kernel_rfl) rfl
theorem En.f36 : ∀ args w, (callFunc 36 args).run Try.prog w = .ok (.enter 36 args) w := enters_of Try.func36 (by kernel_rfl) rfl
theorem En.f37 : ∀ args w, (callFunc 37 args).run Try.prog w = .ok (.enter 37 args) w := enters_of Try.func37 (by kernel_rfl) rfl
theorem En.f38 : ∀ args w, (callFunc 38 args).run Try.prog w = .ok (.enter 38 args) w := enters_of Try.func38 (by kernel_rfl) rfl
theorem En.f39 : ∀ args w, (callFunc 39 args).run Try.prog w = .ok (.enter 39 args) w := enters_of Try.func39 (by kernel_rfl) rfl
theorem En.f40 : ∀ args w, (callFunc 40 args).run Try.prog w = .ok (.enter 40 args) w := enters_of Try.func40 (by kernel_rfl) rfl
theorem En.f41 : ∀ args w, (callFunc 41 args).run Try.prog w = .ok (.enter 41 args) w := enters_of Try.func41 (by kernel_rfl) rfl
theorem En.f42 : ∀ args w, (callFunc 42 args).run Try.prog w = .ok (.enter 42 args) w := enters_of Try.func42 (by kernel_rfl) rfl
theorem En.f43 : ∀ args w, (callFunc 43 args).run Try.prog w = .ok (.enter 43 args) w := enters_of Try.func43 (by kernel_rfl) rfl
theorem En.f44 : ∀ args w, (callFunc 44 args).run Try.prog w = .ok (.enter 44 args) w := enters_of Try.func44 (by kernel_rfl) rfl
theorem En.f45 : ∀ args w, (callFunc 45 args).run Try.prog w = .ok (.enter 45 args) w := enters_of Try.func45 (by kernel_rfl) rfl
theorem En.f46 : ∀ args w, (callFunc 46 args).run Try.prog w = .ok (.enter 46 args) w := enters_of Try.func46 (by kernel_rfl) rfl
theorem En.f47 : ∀ args w, (callFunc 47 args).run Try.prog w = .ok (.enter 47 args) w := enters_of Try.func47 (by kernel_rfl) rfl
theorem En.f48 : ∀ args w, (callFunc 48 args).run Try.prog w = .ok (.enter 48 args) w := enters_of Try.func48 (by kernel_rfl) rfl
theorem En.f49 : ∀ args w, (callFunc 49 args).run Try.prog w = .ok (.enter 49 args) w := enters_of Try.func49 (by kernel_rfl) rfl
theorem En.f50 : ∀ args w, (callFunc 50 args).run Try.prog w = .ok (.enter 50 args) w := enters_of Try.func50 (by kernel_rfl) rfl
theorem En.f51 : ∀ args w, (callFunc 51 args).run Try.prog w = .ok (.enter 51 args) w := enters_of Try.func51 (by kernel_rfl) rfl
theorem En.f52 : ∀ args w, (callFunc 52 args).run Try.prog w = .ok (.enter 52 args) w := enters_of Try.func52 (by kernel_rfl) rfl
theorem En.f53 : ∀ args w, (callFunc 53 args).run Try.prog w = .ok (.enter 53 args) w := enters_of Try.func53 (by kernel_rfl) rfl
theorem En.f54 : ∀ args w, (callFunc 54 args).run Try.prog w = .ok (.enter 54 args) w := enters_of Try.func54 (by kernel_rfl) rfl
theorem En.f55 : ∀ args w, (callFunc 55 args).run Try.prog w = .ok (.enter 55 args) w := enters_of Try.func55 (by kernel_rfl) rfl
theorem En.f56 : ∀ args w, (callFunc 56 args).run Try.prog w = .ok (.enter 56 args) w := enters_of Try.func56 (by kernel_rfl) rfl
theorem En.f57 : ∀ args w, (callFunc 57 args).run Try.prog w = .ok (.enter 57 args) w := enters_of Try.func57 (by kernel_rfl) rfl
theorem En.f58 : ∀ args w, (callFunc 58 args).run Try.prog w = .ok (.enter 58 args) w := enters_of Try.func58 (by kernel_rfl) rfl
theorem En.f59 : ∀ args w, (callFunc 59 args).run Try.prog w = .ok (.enter 59 args) w := enters_of Try.func59 (by kernel_rfl) rfl
theorem En.f60 : ∀ args w, (callFunc 60 args).run Try.prog w = .ok (.enter 60 args) w := enters_of Try.func60 (by kernel_rfl) rfl
theorem En.f61 : ∀ args w, (callFunc 61 args).run Try.prog w = .ok (.enter 61 args) w := enters_of Try.func61 (by kernel_rfl) rfl
theorem En.f62 : ∀ args w, (callFunc 62 args).run Try.prog w = .ok (.enter 62 args) w := enters_of Try.func62 (by kernel_rfl) rfl
theorem En.f63 : ∀ args w, (callFunc 63 args).run Try.prog w = .ok (.enter 63 args) w := enters_of Try.func63 (by kernel_rfl) rfl
theorem En.f64 : ∀ args w, (callFunc 64 args).run Try.prog w = .ok (.enter 64 args) w := enters_of Try.func64 (by kernel_rfl) rfl
theorem En.f65 : ∀ args w, (callFunc 65 args).run Try.prog w = .ok (.enter 65 args) w := enters_of Try.func65 (by kernel_rfl) rfl
theorem En.f66 : ∀ args w, (callFunc 66 args).run Try.prog w = .ok (.enter 66 args) w := enters_of Try.func66 (by kernel_rfl) rfl
theorem En.f67 : ∀ args w, (callFunc 67 args).run Try.prog w = .ok (.enter 67 args) w := enters_of Try.func67 (by kernel_rfl) rfl
theorem En.f68 : ∀ args w, (callFunc 68 args).run Try.prog w = .ok (.enter 68 args) w := enters_of Try.func68 (by kernel_rfl) rfl
theorem En.f69 : ∀ args w, (callFunc 69 args).run Try.prog w = .ok (.enter 69 args) w := enters_of Try.func69 (by kernel_rfl) rfl
theorem En.f70 : ∀ args w, (callFunc 70 args).run Try.prog w = .ok (.enter 70 args) w := enters_of Try.func70 (by kernel_rfl) rfl
theorem En.f71 : ∀ args w, (callFunc 71 args).run Try.prog w = .ok (.enter 71 args) w := enters_of Try.func71 (by kernel_rfl) rfl
theorem En.f72 : ∀ args w, (callFunc 72 args).run Try.prog w = .ok (.enter 72 args) w := enters_of Try.func72 (by kernel_rfl) rfl
theorem En.f73 : ∀ args w, (callFunc 73 args).run Try.prog w = .ok (.enter 73 args) w := enters_of Try.func73 (by kernel_rfl) rfl
theorem En.f74 : ∀ args w, (callFunc 74 args).run Try.prog w = .ok (.enter 74 args) w := enters_of Try.func74 (by kernel_rfl) rfl
theorem En.f75 : ∀ args w, (callFunc 75 args).run Try.prog w = .ok (.enter 75 args) w := enters_of Try.func75 (by kernel_rfl) rfl
theorem En.f76 : ∀ args w, (callFunc 76 args).run Try.prog w = .ok (.enter 76 args) w := enters_of Try.func76 (by kernel_rfl) rfl
theorem En.f77 : ∀ args w, (callFunc 77 args).run Try.prog w = .ok (.enter 77 args) w := enters_of Try.func77 (by kernel_rfl) rfl
theorem En.f78 : ∀ args w, (callFunc 78 args).run Try.prog w = .ok (.enter 78 args) w := enters_of Try.func78 (by kernel_rfl) rfl
theorem En.f79 : ∀ args w, (callFunc 79 args).run Try.prog w = .ok (.enter 79 args) w := enters_of Try.func79 (by kernel_rfl) rfl
theorem En.f80 : ∀ args w, (callFunc 80 args).run Try.prog w = .ok (.enter 80 args) w := enters_of Try.func80 (by kernel_rfl) rfl
theorem En.f81 : ∀ args w, (callFunc 81 args).run Try.prog w = .ok (.enter 81 args) w := enters_of Try.func81 (by kernel_rfl) rfl
theorem En.f82 : ∀ args w, (callFunc 82 args).run Try.prog w = .ok (.enter 82 args) w := enters_of Try.func82 (by kernel_rfl) rfl
theorem En.f83 : ∀ args w, (callFunc 83 args).run Try.prog w = .ok (.enter 83 args) w := enters_of Try.func83 (by kernel_rfl) rfl
theorem En.f84 : ∀ args w, (callFunc 84 args).run Try.prog w = .ok (.enter 84 args) w := enters_of Try.func84 (by kernel_rfl) rfl
theorem En.f85 : ∀ args w, (callFunc 85 args).run Try.prog w = .ok (.enter 85 args) w := enters_of Try.func85 (by kernel_rfl) rfl
theorem En.f86 : ∀ args w, (callFunc 86 args).run Try.prog w = .ok (.enter 86 args) w := enters_of Try.func86 (by kernel_rfl) rfl
theorem En.f87 : ∀ args w, (callFunc 87 args).run Try.prog w = .ok (.enter 87 args) w := enters_of Try.func87 (by kernel_rfl) rfl
theorem En.f88 : ∀ args w, (callFunc 88 args).run Try.prog w = .ok (.enter 88 args) w := enters_of Try.func88 (by kernel_rfl) rfl
theorem En.f89 : ∀ args w, (callFunc 89 args).run Try.prog w = .ok (.enter 89 args) w := enters_of Try.func89 (by kernel_rfl) rfl
theorem En.f90 : ∀ args w, (callFunc 90 args).run Try.prog w = .ok (.enter 90 args) w := enters_of Try.func90 (by kernel_rfl) rfl
theorem En.f91 : ∀ args w, (callFunc 91 args).run Try.prog w = .ok (.enter 91 args) w := enters_of Try.func91 (by kernel_rfl) rfl
theorem En.f92 : ∀ args w, (callFunc 92 args).run Try.prog w = .ok (.enter 92 args) w := enters_of Try.func92 (by kernel_rfl) rfl
theorem En.f93 : ∀ args w, (callFunc 93 args).run Try.prog w = .ok (.enter 93 args) w := enters_of Try.func93 (by kernel_rfl) rfl
theorem En.f94 : ∀ args w, (callFunc 94 args).run Try.prog w = .ok (.enter 94 args) w := enters_of Try.func94 (by kernel_rfl) rfl
theorem En.f95 : ∀ args w, (callFunc 95 args).run Try.prog w = .ok (.enter 95 args) w := enters_of Try.func95 (by kernel_rfl) rfl
theorem En.f96 : ∀ args w, (callFunc 96 args).run Try.prog w = .ok (.enter 96 args) w := enters_of Try.func96 (by kernel_rfl) rfl
theorem En.f97 : ∀ args w, (callFunc 97 args).run Try.prog w = .ok (.enter 97 args) w := enters_of Try.func97 (by kernel_rfl) rfl
theorem En.f98 : ∀ args w, (callFunc 98 args).run Try.prog w = .ok (.enter 98 args) w := enters_of Try.func98 (by kernel_rfl) rfl
theorem En.f99 : ∀ args w, (callFunc 99 args).run Try.prog w = .ok (.enter 99 args) w := enters_of Try.func99 (by kernel_rfl) rfl
theorem En.f101 : ∀ args w, (callFunc 101 args).run Try.prog w = .ok (.enter 101 args) w := enters_of Try.func101 (by kernel_rfl) rfl
theorem En.f102 : ∀ args w, (callFunc 102 args).run Try.prog w = .ok (.enter 102 args) w := enters_of Try.func102 (by kernel_rfl) rfl
theorem En.f103 : ∀ args w, (callFunc 103 args).run Try.prog w = .ok (.enter 103 args) w := enters_of Try.func103 (by kernel_rfl) rfl
theorem En.f104 : ∀ args w, (callFunc 104 args).run Try.prog w = .ok (.enter 104 args) w := enters_of Try.func104 (by kernel_rfl) rfl
theorem En.f105 : ∀ args w, (callFunc 105 args).run Try.prog w = .ok (.enter 105 args) w := enters_of Try.func105 (by kernel_rfl) rfl
theorem En.f106 : ∀ args w, (callFunc 106 args).run Try.prog w = .ok (.enter 106 args) w := enters_of Try.func106 (by kernel_rfl) rfl
theorem En.f107 : ∀ args w, (callFunc 107 args).run Try.prog w = .ok (.enter 107 args) w := enters_of Try.func107 (by kernel_rfl) rfl
theorem En.f108 : ∀ args w, (callFunc 108 args).run Try.prog w = .ok (.enter 108 args) w := enters_of Try.func108 (by kernel_rfl) rfl
theorem En.f109 : ∀ args w, (callFunc 109 args).run Try.prog w = .ok (.enter 109 args) w := enters_of Try.func109 (by kernel_rfl) rfl
theorem En.f110 : ∀ args w, (callFunc 110 args).run Try.prog w = .ok (.enter 110 args) w := enters_of Try.func110 (by kernel_rfl) rfl
theorem En.f111 : ∀ args w, (callFunc 111 args).run Try.prog w = .ok (.enter 111 args) w := enters_of Try.func111 (by kernel_rfl) rfl
theorem En.f112 : ∀ args w, (callFunc 112 args).run Try.prog w = .ok (.enter 112 args) w := enters_of Try.func112 (by kernel_rfl) rfl
theorem En.f113 : ∀ args w, (callFunc 113 args).run Try.prog w = .ok (.enter 113 args) w := enters_of Try.func113 (by kernel_rfl) rfl
theorem En.f114 : ∀ args w, (callFunc 114 args).run Try.prog w = .ok (.enter 114 args) w := enters_of Try.func114 (by kernel_rfl) rfl
theorem En.f115 : ∀ args w, (callFunc 115 args).run Try.prog w = .ok (.enter 115 args) w := enters_of Try.func115 (by kernel_rfl) rfl
theorem En.f116 : ∀ args w, (callFunc 116 args).run Try.prog w = .ok (.enter 116 args) w := enters_of Try.func116 (by kernel_rfl) rfl
theorem En.f117 : ∀ args w, (callFunc 117 args).run Try.prog w = .ok (.enter 117 args) w := enters_of Try.func117 (by kernel_rfl) rfl
theorem En.f118 : ∀ args w, (callFunc 118 args).run Try.prog w = .ok (.enter 118 args) w := enters_of Try.func118 (by kernel_rfl) rfl
theorem En.f119 : ∀ args w, (callFunc 119 args).run Try.prog w = .ok (.enter 119 args) w := enters_of Try.func119 (by kernel_rfl) rfl
theorem En.f120 : ∀ args w, (callFunc 120 args).run Try.prog w = .ok (.enter 120 args) w := enters_of Try.func120 (by kernel_rfl) rfl
theorem En.f121 : ∀ args w, (callFunc 121 args).run Try.prog w = .ok (.enter 121 args) w := enters_of Try.func121 (by kernel_rfl) rfl
theorem En.f122 : ∀ args w, (callFunc 122 args).run Try.prog w = .ok (.enter 122 args) w := enters_of Try.func122 (by kernel_rfl) rfl
theorem En.f123 : ∀ args w, (callFunc 123 args).run Try.prog w = .ok (.enter 123 args) w := enters_of Try.func123 (by kernel_rfl) rfl
theorem En.f124 : ∀ args w, (callFunc 124 args).run Try.prog w = .ok (.enter 124 args) w := enters_of Try.func124 (by kernel_rfl) rfl
theorem En.f125 : ∀ args w, (callFunc 125 args).run Try.prog w = .ok (.enter 125 args) w := enters_of Try.func125 (by kernel_rfl) rfl
theorem En.f126 : ∀ args w, (callFunc 126 args).run Try.prog w = .ok (.enter 126 args) w := enters_of Try.func126 (by kernel_rfl) rfl
theorem En.f127 : ∀ args w, (callFunc 127 args).run Try.prog w = .ok (.enter 127 args) w := enters_of Try.func127 (by kernel_rfl) rfl
theorem En.f128 : ∀ args w, (callFunc 128 args).run Try.prog w = .ok (.enter 128 args) w := enters_of Try.func128 (by kernel_rfl) rfl
theorem En.f129 : ∀ args w, (callFunc 129 args).run Try.prog w = .ok (.enter 129 args) w := enters_of Try.func129 (by kernel_rfl) rfl
theorem En.f130 : ∀ args w, (callFunc 130 args).run Try.prog w = .ok (.enter 130 args) w := enters_of Try.func130 (by kernel_rfl) rfl
theorem En.f131 : ∀ args w, (callFunc 131 args).run Try.prog w = .ok (.enter 131 args) w := enters_of Try.func131 (by kernel_rfl) rfl
theorem En.f132 : ∀ args w, (callFunc 132 args).run Try.prog w = .ok (.enter 132 args) w := enters_of Try.func132 (by kernel_rfl) rfl
theorem En.f133 : ∀ args w, (callFunc 133 args).run Try.prog w = .ok (.enter 133 args) w := enters_of Try.func133 (by kernel_rfl) rfl
theorem En.f134 : ∀ args w, (callFunc 134 args).run Try.prog w = .ok (.enter 134 args) w := enters_of Try.func134 (by kernel_rfl) rfl
theorem En.f135 : ∀ args w, (callFunc 135 args).run Try.prog w = .ok (.enter 135 args) w := enters_of Try.func135 (by kernel_rfl) rfl
theorem En.f136 : ∀ args w, (callFunc 136 args).run Try.prog w = .ok (.enter 136 args) w := enters_of Try.func136 (by kernel_rfl) rfl
theorem En.f137 : ∀ args w, (callFunc 137 args).run Try.prog w = .ok (.enter 137 args) w := enters_of Try.func137 (by kernel_rfl) rfl
theorem En.f138 : ∀ args w, (callFunc 138 args).run Try.prog w = .ok (.enter 138 args) w := enters_of Try.func138 (by kernel_rfl) rfl
theorem En.f139 : ∀ args w, (callFunc 139 args).run Try.prog w = .ok (.enter 139 args) w := enters_of Try.func139 (by kernel_rfl) rfl
theorem En.f140 : ∀ args w, (callFunc 140 args).run Try.prog w = .ok (.enter 140 args) w := enters_of Try.func140 (by kernel_rfl) rfl
theorem En.f142 : ∀ args w, (callFunc 142 args).run Try.prog w = .ok (.enter 142 args) w := enters_of Try.func142 (by kernel_rfl) rfl
theorem En.f143 : ∀ args w, (callFunc 143 args).run Try.prog w = .ok (.enter 143 args) w := enters_of Try.func143 (by kernel_rfl) rfl
theorem En.f144 : ∀ args w, (callFunc 144 args).run Try.prog w = .ok (.enter 144 args) w := enters_of Try.func144 (by kernel_rfl) rfl
theorem En.f145 : ∀ args w, (callFunc 145 args).run Try.prog w = .ok (.enter 145 args) w := enters_of Try.func145 (by kernel_rfl) rfl
theorem En.f146 : ∀ args w, (callFunc 146 args).run Try.prog w = .ok (.enter 146 args) w := enters_of Try.func146 (by kernel_rfl) rfl
theorem En.f147 : ∀ args w, (callFunc 147 args).run Try.prog w = .ok (.enter 147 args) w := enters_of Try.func147 (by kernel_rfl) rfl
theorem En.f148 : ∀ args w, (callFunc 148 args).run Try.prog w = .ok (.enter 148 args) w := enters_of Try.func148 (by kernel_rfl) rfl
theorem En.f149 : ∀ args w, (callFunc 149 args).run Try.prog w = .ok (.enter 149 args) w := enters_of Try.func149 (by kernel_rfl) rfl
theorem En.f151 : ∀ args w, (callFunc 151 args).run Try.prog w = .ok (.enter 151 args) w := enters_of Try.func151 (by kernel_rfl) rfl
theorem En.f152 : ∀ args w, (callFunc 152 args).run Try.prog w = .ok (.enter 152 args) w := enters_of Try.func152 (by kernel_rfl) rfl
end Go.Proofs.Ytefhfoioeoijlaa
