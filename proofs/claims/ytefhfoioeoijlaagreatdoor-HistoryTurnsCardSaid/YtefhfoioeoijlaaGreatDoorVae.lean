/- Ty -/
import Derived.Test.YtefhfoioeoijlaaGreatDoorProg
import Derived.Test.YtefhfoioeoijlaaGreatDoorVad
set_option linter.unusedVariables false
namespace Go.Proofs.YtefhfoioeoijlaaGreatDoor
open Go Go.RowKit Go.Sort
theorem Ty.ag2 : ∀ w, (isAgg 2).run Tryz.prog w = .ok false w := fun _ => by kernel_rfl
theorem Ty.ag3 : ∀ w, (isAgg 3).run Tryz.prog w = .ok false w := fun _ => by kernel_rfl
theorem Ty.ag4 : ∀ w, (isAgg 4).run Tryz.prog w = .ok false w := fun _ => by kernel_rfl
theorem Ty.sz5 : ∀ w, (sizeOf 5).run Tryz.prog w = .ok 1 w := fun _ => by kernel_rfl
theorem Ty.zv5 : ∀ w, (zeroValue 5).run Tryz.prog w = .ok (.int .u8 0) w := fun _ => by kernel_rfl
theorem Ty.ag9 : ∀ w, (isAgg 9).run Tryz.prog w = .ok false w := fun _ => by kernel_rfl
theorem Ty.sz9 : ∀ w, (sizeOf 9).run Tryz.prog w = .ok 1 w := fun _ => by kernel_rfl
theorem Ty.zv9 : ∀ w, (zeroValue 9).run Tryz.prog w = .ok (.string (⟨#[]⟩)) w := fun _ => by kernel_rfl
theorem Ty.un9 : Tryz.prog.underlying 9 = some .string := by kernel_rfl
theorem Ty.un22 : Tryz.prog.underlying 22 = some (.slice 49) := by kernel_rfl
theorem Ty.ag24 : ∀ w, (isAgg 24).run Tryz.prog w = .ok true w := fun _ => by kernel_rfl
theorem Ty.sz24 : ∀ w, (sizeOf 24).run Tryz.prog w = .ok 2 w := fun _ => by kernel_rfl
theorem Ty.zv24 : ∀ w, (zeroValue 24).run Tryz.prog w = .ok (.agg #[.int .i64 0, .int .i64 0]) w := fun _ => by kernel_rfl
noncomputable def Ty.fs24 : List Field := match Tryz.prog.underlying 24 with | some (.struct fs) => fs.toList | _ => []
theorem Ty.un24 : Tryz.prog.underlying 24 = some (.struct Ty.fs24.toArray) := by kernel_rfl
theorem Ty.pl24 : ∀ w, (Ty.fs24.mapM fun f => Prod.mk f.offset <$> sizeOf f.type : Sem (List (Nat × Nat))).run Tryz.prog w = .ok [(0, 1), (1, 1)] w := fun _ => by kernel_rfl
theorem Ty.ag27 : ∀ w, (isAgg 27).run Tryz.prog w = .ok false w := fun _ => by kernel_rfl
theorem Ty.un29 : Tryz.prog.underlying 29 = some (.slice 35) := by kernel_rfl
theorem Ty.ag35 : ∀ w, (isAgg 35).run Tryz.prog w = .ok true w := fun _ => by kernel_rfl
theorem Ty.sz35 : ∀ w, (sizeOf 35).run Tryz.prog w = .ok 5 w := fun _ => by kernel_rfl
theorem Ty.zv35 : ∀ w, (zeroValue 35).run Tryz.prog w = .ok (.agg #[.string (⟨#[]⟩), .int .i64 0, .int .i64 0, .bool false, .int .i64 0]) w := fun _ => by kernel_rfl
noncomputable def Ty.fs35 : List Field := match Tryz.prog.underlying 35 with | some (.struct fs) => fs.toList | _ => []
theorem Ty.un35 : Tryz.prog.underlying 35 = some (.struct Ty.fs35.toArray) := by kernel_rfl
theorem Ty.pl35 : ∀ w, (Ty.fs35.mapM fun f => Prod.mk f.offset <$> sizeOf f.type : Sem (List (Nat × Nat))).run Tryz.prog w = .ok [(0, 1), (1, 2), (3, 1), (4, 1)] w := fun _ => by kernel_rfl
theorem Ty.ag40 : ∀ w, (isAgg 40).run Tryz.prog w = .ok false w := fun _ => by kernel_rfl
theorem Ty.sz40 : ∀ w, (sizeOf 40).run Tryz.prog w = .ok 1 w := fun _ => by kernel_rfl
theorem Ty.un40 : Tryz.prog.underlying 40 = some (.slice 5) := by kernel_rfl
theorem Ty.ag42 : ∀ w, (isAgg 42).run Tryz.prog w = .ok true w := fun _ => by kernel_rfl
theorem Ty.sz42 : ∀ w, (sizeOf 42).run Tryz.prog w = .ok 10 w := fun _ => by kernel_rfl
theorem Ty.zv42 : ∀ w, (zeroValue 42).run Tryz.prog w = .ok (.agg #[.int .i64 0, .int .i64 0, .int .i64 0, .int .i64 0, .string (⟨#[]⟩), .bool false, .bool false, .slice none 0 0, .int .i64 0, .int .i64 0]) w := fun _ => by kernel_rfl
noncomputable def Ty.fs42 : List Field := match Tryz.prog.underlying 42 with | some (.struct fs) => fs.toList | _ => []
theorem Ty.un42 : Tryz.prog.underlying 42 = some (.struct Ty.fs42.toArray) := by kernel_rfl
theorem Ty.pl42 : ∀ w, (Ty.fs42.mapM fun f => Prod.mk f.offset <$> sizeOf f.type : Sem (List (Nat × Nat))).run Tryz.prog w = .ok [(0, 2), (2, 2), (4, 1), (5, 1), (6, 1), (7, 1), (8, 2)] w := fun _ => by kernel_rfl
theorem Ty.ag44 : ∀ w, (isAgg 44).run Tryz.prog w = .ok false w := fun _ => by kernel_rfl
theorem Ty.sz44 : ∀ w, (sizeOf 44).run Tryz.prog w = .ok 1 w := fun _ => by kernel_rfl
theorem Ty.zv44 : ∀ w, (zeroValue 44).run Tryz.prog w = .ok (.nilFunc) w := fun _ => by kernel_rfl
theorem Ty.ag49 : ∀ w, (isAgg 49).run Tryz.prog w = .ok true w := fun _ => by kernel_rfl
theorem Ty.sz49 : ∀ w, (sizeOf 49).run Tryz.prog w = .ok 10 w := fun _ => by kernel_rfl
theorem Ty.zv49 : ∀ w, (zeroValue 49).run Tryz.prog w = .ok (.agg #[.int .i64 0, .int .i64 0, .int .i64 0, .int .i64 0, .int .i64 0, .int .i64 0, .int .i64 0, .bool false, .string (⟨#[]⟩), .slice none 0 0]) w := fun _ => by kernel_rfl
noncomputable def Ty.fs49 : List Field := match Tryz.prog.underlying 49 with | some (.struct fs) => fs.toList | _ => []
theorem Ty.un49 : Tryz.prog.underlying 49 = some (.struct Ty.fs49.toArray) := by kernel_rfl
theorem Ty.pl49 : ∀ w, (Ty.fs49.mapM fun f => Prod.mk f.offset <$> sizeOf f.type : Sem (List (Nat × Nat))).run Tryz.prog w = .ok [(0, 1), (1, 2), (3, 2), (5, 2), (7, 1), (8, 1), (9, 1)] w := fun _ => by kernel_rfl
theorem Ty.un52 : Tryz.prog.underlying 52 = some (.slice 117) := by kernel_rfl
theorem Ty.un54 : Tryz.prog.underlying 54 = some (.slice 61) := by kernel_rfl
theorem Ty.sz61 : ∀ w, (sizeOf 61).run Tryz.prog w = .ok 5 w := fun _ => by kernel_rfl
theorem Ty.zv61 : ∀ w, (zeroValue 61).run Tryz.prog w = .ok (.agg #[.int .i64 0, .int .i64 0, .int .i64 0, .string (⟨#[]⟩), .string (⟨#[]⟩)]) w := fun _ => by kernel_rfl
noncomputable def Ty.fs61 : List Field := match Tryz.prog.underlying 61 with | some (.struct fs) => fs.toList | _ => []
theorem Ty.un61 : Tryz.prog.underlying 61 = some (.struct Ty.fs61.toArray) := by kernel_rfl
theorem Ty.pl61 : ∀ w, (Ty.fs61.mapM fun f => Prod.mk f.offset <$> sizeOf f.type : Sem (List (Nat × Nat))).run Tryz.prog w = .ok [(0, 1), (1, 2), (3, 1), (4, 1)] w := fun _ => by kernel_rfl
theorem Ty.un69 : Tryz.prog.underlying 69 = some (.slice 9) := by kernel_rfl
theorem Ty.ag74 : ∀ w, (isAgg 74).run Tryz.prog w = .ok false w := fun _ => by kernel_rfl
theorem Ty.sz74 : ∀ w, (sizeOf 74).run Tryz.prog w = .ok 1 w := fun _ => by kernel_rfl
theorem Ty.zv74 : ∀ w, (zeroValue 74).run Tryz.prog w = .ok (.slice none 0 0) w := fun _ => by kernel_rfl
theorem Ty.un74 : Tryz.prog.underlying 74 = some (.slice 42) := by kernel_rfl
theorem Ty.ag76 : ∀ w, (isAgg 76).run Tryz.prog w = .ok false w := fun _ => by kernel_rfl
theorem Ty.sz76 : ∀ w, (sizeOf 76).run Tryz.prog w = .ok 1 w := fun _ => by kernel_rfl
theorem Ty.zv76 : ∀ w, (zeroValue 76).run Tryz.prog w = .ok (.nilFunc) w := fun _ => by kernel_rfl
theorem Ty.ag95 : ∀ w, (isAgg 95).run Tryz.prog w = .ok false w := fun _ => by kernel_rfl
theorem Ty.un95 : Tryz.prog.underlying 95 = some (.slice 24) := by kernel_rfl
theorem Ty.ag106 : ∀ w, (isAgg 106).run Tryz.prog w = .ok false w := fun _ => by kernel_rfl
theorem Ty.ag112 : ∀ w, (isAgg 112).run Tryz.prog w = .ok false w := fun _ => by kernel_rfl
theorem Ty.sz112 : ∀ w, (sizeOf 112).run Tryz.prog w = .ok 1 w := fun _ => by kernel_rfl
theorem Ty.zv112 : ∀ w, (zeroValue 112).run Tryz.prog w = .ok (.slice none 0 0) w := fun _ => by kernel_rfl
theorem Ty.un112 : Tryz.prog.underlying 112 = some (.slice 116) := by kernel_rfl
theorem Ty.sz116 : ∀ w, (sizeOf 116).run Tryz.prog w = .ok 3 w := fun _ => by kernel_rfl
theorem Ty.zv116 : ∀ w, (zeroValue 116).run Tryz.prog w = .ok (.agg #[.int .i64 0, .int .i64 0, .slice none 0 0]) w := fun _ => by kernel_rfl
noncomputable def Ty.fs116 : List Field := match Tryz.prog.underlying 116 with | some (.struct fs) => fs.toList | _ => []
theorem Ty.un116 : Tryz.prog.underlying 116 = some (.struct Ty.fs116.toArray) := by kernel_rfl
theorem Ty.pl116 : ∀ w, (Ty.fs116.mapM fun f => Prod.mk f.offset <$> sizeOf f.type : Sem (List (Nat × Nat))).run Tryz.prog w = .ok [(0, 2), (2, 1)] w := fun _ => by kernel_rfl
theorem Ty.ag117 : ∀ w, (isAgg 117).run Tryz.prog w = .ok true w := fun _ => by kernel_rfl
theorem Ty.sz117 : ∀ w, (sizeOf 117).run Tryz.prog w = .ok 5 w := fun _ => by kernel_rfl
theorem Ty.zv117 : ∀ w, (zeroValue 117).run Tryz.prog w = .ok (.agg #[.int .i64 0, .int .i64 0, .int .i64 0, .string (⟨#[]⟩), .string (⟨#[]⟩)]) w := fun _ => by kernel_rfl
noncomputable def Ty.fs117 : List Field := match Tryz.prog.underlying 117 with | some (.struct fs) => fs.toList | _ => []
theorem Ty.un117 : Tryz.prog.underlying 117 = some (.struct Ty.fs117.toArray) := by kernel_rfl
theorem Ty.pl117 : ∀ w, (Ty.fs117.mapM fun f => Prod.mk f.offset <$> sizeOf f.type : Sem (List (Nat × Nat))).run Tryz.prog w = .ok [(0, 1), (1, 2), (3, 1), (4, 1)] w := fun _ => by kernel_rfl
theorem Ty.ag123 : ∀ w, (isAgg 123).run Tryz.prog w = .ok true w := fun _ => by kernel_rfl
theorem Ty.sz123 : ∀ w, (sizeOf 123).run Tryz.prog w = .ok 12 w := fun _ => by kernel_rfl
theorem Ty.zv123 : ∀ w, (zeroValue 123).run Tryz.prog w = .ok (.agg #[.int .i64 0, .int .i64 0, .int .i64 0, .int .i64 0, .string (⟨#[]⟩), .bool false, .bool false, .slice none 0 0, .int .i64 0, .int .i64 0, .bool false, .string (⟨#[]⟩)]) w := fun _ => by kernel_rfl
noncomputable def Ty.fs123 : List Field := match Tryz.prog.underlying 123 with | some (.struct fs) => fs.toList | _ => []
theorem Ty.un123 : Tryz.prog.underlying 123 = some (.struct Ty.fs123.toArray) := by kernel_rfl
theorem Ty.pl123 : ∀ w, (Ty.fs123.mapM fun f => Prod.mk f.offset <$> sizeOf f.type : Sem (List (Nat × Nat))).run Tryz.prog w = .ok [(0, 10), (10, 1), (11, 1)] w := fun _ => by kernel_rfl
theorem Ty.un168 : Tryz.prog.underlying 168 = some (.map 9 4) := by kernel_rfl
theorem Ty.un177 : Tryz.prog.underlying 177 = some (.slice 74) := by kernel_rfl
theorem En.f13 : ∀ args w, (callFunc 13 args).run Tryz.prog w = .ok (.enter 13 args) w := enters_of Tryz.func13 (by kernel_rfl) rfl
theorem En.f15 : ∀ args w, (callFunc 15 args).run Tryz.prog w = .ok (.enter 15 args) w := enters_of Tryz.func15 (by kernel_rfl) rfl
theorem En.f19 : ∀ args w, (callFunc 19 args).run Tryz.prog w = .ok (.enter 19 args) w := enters_of Tryz.func19 (by kernel_rfl) rfl
theorem En.f20 : ∀ args w, (callFunc 20 args).run Tryz.prog w = .ok (.enter 20 args) w := enters_of Tryz.func20 (by kernel_rfl) rfl
theorem En.f22 : ∀ args w, (callFunc 22 args).run Tryz.prog w = .ok (.enter 22 args) w := enters_of Tryz.func22 (by kernel_rfl) rfl
theorem En.f23 : ∀ args w, (callFunc 23 args).run Tryz.prog w = .ok (.enter 23 args) w := enters_of Tryz.func23 (by kernel_rfl) rfl
theorem En.f24 : ∀ args w, (callFunc 24 args).run Tryz.prog w = .ok (.enter 24 args) w := enters_of Tryz.func24 (by kernel_rfl) rfl
theorem En.f25 : ∀ args w, (callFunc 25 args).run Tryz.prog w = .ok (.enter 25 args) w := enters_of Tryz.func25 (by kernel_rfl) rfl
theorem En.f26 : ∀ args w, (callFunc 26 args).run Tryz.prog w = .ok (.enter 26 args) w := enters_of Tryz.func26 (by kernel_rfl) rfl
theorem En.f29 : ∀ args w, (callFunc 29 args).run Tryz.prog w = .ok (.enter 29 args) w := enters_of Tryz.func29 (by kernel_rfl) rfl
theorem En.f30 : ∀ args w, (callFunc 30 args).run Tryz.prog w = .ok (.enter 30 args) w := enters_of Tryz.func30 (by kernel_rfl) rfl
theorem En.f36 : ∀ args w, (callFunc 36 args).run Tryz.prog w = .ok (.enter 36 args) w := enters_of Tryz.func36 (by kernel_rfl) rfl
theorem En.f38 : ∀ args w, (callFunc 38 args).run Tryz.prog w = .ok (.enter 38 args) w := enters_of Tryz.func38 (by kernel_rfl) rfl
theorem En.f39 : ∀ args w, (callFunc 39 args).run Tryz.prog w = .ok (.enter 39 args) w := enters_of Tryz.func39 (by kernel_rfl) rfl
theorem En.f41 : ∀ args w, (callFunc 41 args).run Tryz.prog w = .ok (.enter 41 args) w := enters_of Tryz.func41 (by kernel_rfl) rfl
theorem En.f42 : ∀ args w, (callFunc 42 args).run Tryz.prog w = .ok (.enter 42 args) w := enters_of Tryz.func42 (by kernel_rfl) rfl
theorem En.f56 : ∀ args w, (callFunc 56 args).run Tryz.prog w = .ok (.enter 56 args) w := enters_of Tryz.func56 (by kernel_rfl) rfl
theorem En.f58 : ∀ args w, (callFunc 58 args).run Tryz.prog w = .ok (.enter 58 args) w := enters_of Tryz.func58 (by kernel_rfl) rfl
theorem En.f65 : ∀ args w, (callFunc 65 args).run Tryz.prog w = .ok (.enter 65 args) w := enters_of Tryz.func65 (by kernel_rfl) rfl
theorem En.f66 : ∀ args w, (callFunc 66 args).run Tryz.prog w = .ok (.enter 66 args) w := enters_of Tryz.func66 (by kernel_rfl) rfl
theorem En.f71 : ∀ args w, (callFunc 71 args).run Tryz.prog w = .ok (.enter 71 args) w := enters_of Tryz.func71 (by kernel_rfl) rfl
theorem En.f72 : ∀ args w, (callFunc 72 args).run Tryz.prog w = .ok (.enter 72 args) w := enters_of Tryz.func72 (by kernel_rfl) rfl
theorem En.f73 : ∀ args w, (callFunc 73 args).run Tryz.prog w = .ok (.enter 73 args) w := enters_of Tryz.func73 (by kernel_rfl) rfl
theorem En.f74 : ∀ args w, (callFunc 74 args).run Tryz.prog w = .ok (.enter 74 args) w := enters_of Tryz.func74 (by kernel_rfl) rfl
theorem En.f75 : ∀ args w, (callFunc 75 args).run Tryz.prog w = .ok (.enter 75 args) w := enters_of Tryz.func75 (by kernel_rfl) rfl
theorem En.f76 : ∀ args w, (callFunc 76 args).run Tryz.prog w = .ok (.enter 76 args) w := enters_of Tryz.func76 (by kernel_rfl) rfl
theorem En.f94 : ∀ args w, (callFunc 94 args).run Tryz.prog w = .ok (.enter 94 args) w := enters_of Tryz.func94 (by kernel_rfl) rfl
theorem En.f95 : ∀ args w, (callFunc 95 args).run Tryz.prog w = .ok (.enter 95 args) w := enters_of Tryz.func95 (by kernel_rfl) rfl
theorem En.f97 : ∀ args w, (callFunc 97 args).run Tryz.prog w = .ok (.enter 97 args) w := enters_of Tryz.func97 (by kernel_rfl) rfl
theorem En.f98 : ∀ args w, (callFunc 98 args).run Tryz.prog w = .ok (.enter 98 args) w := enters_of Tryz.func98 (by kernel_rfl) rfl
theorem En.f99 : ∀ args w, (callFunc 99 args).run Tryz.prog w = .ok (.enter 99 args) w := enters_of Tryz.func99 (by kernel_rfl) rfl
theorem En.f100 : ∀ args w, (callFunc 100 args).run Tryz.prog w = .ok (.enter 100 args) w := enters_of Tryz.func100 (by kernel_rfl) rfl
theorem En.f101 : ∀ args w, (callFunc 101 args).run Tryz.prog w = .ok (.enter 101 args) w := enters_of Tryz.func101 (by kernel_rfl) rfl
theorem En.f102 : ∀ args w, (callFunc 102 args).run Tryz.prog w = .ok (.enter 102 args) w := enters_of Tryz.func102 (by kernel_rfl) rfl
theorem En.f113 : ∀ args w, (callFunc 113 args).run Tryz.prog w = .ok (.enter 113 args) w := enters_of Tryz.func113 (by kernel_rfl) rfl
theorem En.f114 : ∀ args w, (callFunc 114 args).run Tryz.prog w = .ok (.enter 114 args) w := enters_of Tryz.func114 (by kernel_rfl) rfl
theorem En.f115 : ∀ args w, (callFunc 115 args).run Tryz.prog w = .ok (.enter 115 args) w := enters_of Tryz.func115 (by kernel_rfl) rfl
theorem En.f116 : ∀ args w, (callFunc 116 args).run Tryz.prog w = .ok (.enter 116 args) w := enters_of Tryz.func116 (by kernel_rfl) rfl
theorem En.f117 : ∀ args w, (callFunc 117 args).run Tryz.prog w = .ok (.enter 117 args) w := enters_of Tryz.func117 (by kernel_rfl) rfl
theorem En.f122 : ∀ args w, (callFunc 122 args).run Tryz.prog w = .ok (.enter 122 args) w := enters_of Tryz.func122 (by kernel_rfl) rfl
theorem En.f127 : ∀ args w, (callFunc 127 args).run Tryz.prog w = .ok (.enter 127 args) w := enters_of Tryz.func127 (by kernel_rfl) rfl
theorem En.f128 : ∀ args w, (callFunc 128 args).run Tryz.prog w = .ok (.enter 128 args) w := enters_of Tryz.func128 (by kernel_rfl) rfl
theorem En.f129 : ∀ args w, (callFunc 129 args).run Tryz.prog w = .ok (.enter 129 args) w := enters_of Tryz.func129 (by kernel_rfl) rfl
theorem En.f130 : ∀ args w, (callFunc 130 args).run Tryz.prog w = .ok (.enter 130 args) w := enters_of Tryz.func130 (by kernel_rfl) rfl
theorem En.f131 : ∀ args w, (callFunc 131 args).run Tryz.prog w = .ok (.enter 131 args) w := enters_of Tryz.func131 (by kernel_rfl) rfl
theorem En.f132 : ∀ args w, (callFunc 132 args).run Tryz.prog w = .ok (.enter 132 args) w := enters_of Tryz.func132 (by kernel_rfl) rfl
theorem En.f133 : ∀ args w, (callFunc 133 args).run Tryz.prog w = .ok (.enter 133 args) w := enters_of Tryz.func133 (by kernel_rfl) rfl
theorem En.f135 : ∀ args w, (callFunc 135 args).run Tryz.prog w = .ok (.enter 135 args) w := enters_of Tryz.func135 (by kernel_rfl) rfl
theorem En.f137 : ∀ args w, (callFunc 137 args).run Tryz.prog w = .ok (.enter 137 args) w := enters_of Tryz.func137 (by kernel_rfl) rfl
theorem En.f138 : ∀ args w, (callFunc 138 args).run Tryz.prog w = .ok (.enter 138 args) w := enters_of Tryz.func138 (by kernel_rfl) rfl
theorem En.f149 : ∀ args w, (callFunc 149 args).run Tryz.prog w = .ok (.enter 149 args) w := enters_of Tryz.func149 (by kernel_rfl) rfl
theorem En.f161 : ∀ args w, (callFunc 161 args).run Tryz.prog w = .ok (.enter 161 args) w := enters_of Tryz.func161 (by kernel_rfl) rfl
theorem En.f166 : ∀ args w, (callFunc 166 args).run Tryz.prog w = .ok (.enter 166 args) w := enters_of Tryz.func166 (by kernel_rfl) rfl
theorem En.f200 : ∀ args w, (callFunc 200 args).run Tryz.prog w = .ok (.enter 200 args) w := enters_of Tryz.func200 (by kernel_rfl) rfl
theorem En.f201 : ∀ args w, (callFunc 201 args).run Tryz.prog w = .ok (.enter 201 args) w := enters_of Tryz.func201 (by kernel_rfl) rfl
theorem En.f230 : ∀ args w, (callFunc 230 args).run Tryz.prog w = .ok (.enter 230 args) w := enters_of Tryz.func230 (by kernel_rfl) rfl
theorem En.f251 : ∀ args w, (callFunc 251 args).run Tryz.prog w = .ok (.enter 251 args) w := enters_of Tryz.func251 (by kernel_rfl) rfl
end Go.Proofs.YtefhfoioeoijlaaGreatDoor
