/-
  Texts that the proof needs, joined: part 3.
-/
import Derived.Test.YtjomdboiibakiaaGreatDoorRtB
import Derived.Test.YtjomdboiibakiaaGreatDoorProg
section
set_option linter.unusedVariables false
namespace Go.Sl
open Go.Proofs
instance : Cz Tryz.prog 2 1 := ⟨_, info_of Tryz.type2, rfl⟩
instance : Bz Tryz.prog 2 8 := ⟨_, info_of Tryz.type2, rfl⟩
instance : Zv Tryz.prog 2 (Value.int IntKind.i64 0) := ⟨_, info_of Tryz.type2, rfl⟩
instance : Ag Tryz.prog 2 false := ⟨_, Tryz.underlying2, rfl⟩
instance : NI Tryz.prog 2 := ⟨_, Tryz.underlying2, rfl⟩
instance : Ik Tryz.prog 2 IntKind.i64 := ⟨Tryz.underlying2⟩
instance : Cz Tryz.prog 3 1 := ⟨_, info_of Tryz.type3, rfl⟩
instance : Bz Tryz.prog 3 8 := ⟨_, info_of Tryz.type3, rfl⟩
instance : Zv Tryz.prog 3 (Value.int IntKind.i64 0) := ⟨_, info_of Tryz.type3, rfl⟩
instance : Ag Tryz.prog 3 false := ⟨_, Tryz.underlying3, rfl⟩
instance : NI Tryz.prog 3 := ⟨_, Tryz.underlying3, rfl⟩
instance : Ik Tryz.prog 3 IntKind.i64 := ⟨Tryz.underlying3⟩
instance : Cz Tryz.prog 4 1 := ⟨_, info_of Tryz.type4, rfl⟩
instance : Bz Tryz.prog 4 1 := ⟨_, info_of Tryz.type4, rfl⟩
instance : Zv Tryz.prog 4 (Value.bool false) := ⟨_, info_of Tryz.type4, rfl⟩
instance : Ag Tryz.prog 4 false := ⟨_, Tryz.underlying4, rfl⟩
instance : NI Tryz.prog 4 := ⟨_, Tryz.underlying4, rfl⟩
instance : Cz Tryz.prog 5 1 := ⟨_, info_of Tryz.type5, rfl⟩
instance : Bz Tryz.prog 5 1 := ⟨_, info_of Tryz.type5, rfl⟩
instance : Zv Tryz.prog 5 (Value.int IntKind.u8 0) := ⟨_, info_of Tryz.type5, rfl⟩
instance : Ag Tryz.prog 5 false := ⟨_, Tryz.underlying5, rfl⟩
instance : NI Tryz.prog 5 := ⟨_, Tryz.underlying5, rfl⟩
instance : Ik Tryz.prog 5 IntKind.u8 := ⟨Tryz.underlying5⟩
instance : Cz Tryz.prog 9 1 := ⟨_, info_of Tryz.type9, rfl⟩
instance : Bz Tryz.prog 9 16 := ⟨_, info_of Tryz.type9, rfl⟩
instance : Zv Tryz.prog 9 (Value.string (ByteArray.mk #[])) := ⟨_, info_of Tryz.type9, rfl⟩
instance : Ag Tryz.prog 9 false := ⟨_, Tryz.underlying9, rfl⟩
instance : NI Tryz.prog 9 := ⟨_, Tryz.underlying9, rfl⟩
instance : Cz Tryz.prog 17 1 := ⟨_, info_of Tryz.type17, rfl⟩
instance : Bz Tryz.prog 17 8 := ⟨_, info_of Tryz.type17, rfl⟩
instance : Zv Tryz.prog 17 (Value.pointer none) := ⟨_, info_of Tryz.type17, rfl⟩
instance : Ag Tryz.prog 17 false := ⟨_, Tryz.underlying17, rfl⟩
instance : NI Tryz.prog 17 := ⟨_, Tryz.underlying17, rfl⟩
instance : Pt Tryz.prog 17 353 := ⟨Tryz.underlying17⟩
instance : Cz Tryz.prog 20 1 := ⟨_, info_of Tryz.type20, rfl⟩
instance : Bz Tryz.prog 20 16 := ⟨_, info_of Tryz.type20, rfl⟩
instance : Zv Tryz.prog 20 (Value.nilIface) := ⟨_, info_of Tryz.type20, rfl⟩
instance : Ag Tryz.prog 20 false := ⟨_, Tryz.underlying20, rfl⟩
instance : Cz Tryz.prog 21 1 := ⟨_, info_of Tryz.type21, rfl⟩
instance : Bz Tryz.prog 21 4 := ⟨_, info_of Tryz.type21, rfl⟩
instance : Zv Tryz.prog 21 (Value.int IntKind.i32 0) := ⟨_, info_of Tryz.type21, rfl⟩
instance : Ag Tryz.prog 21 false := ⟨_, Tryz.underlying21, rfl⟩
instance : NI Tryz.prog 21 := ⟨_, Tryz.underlying21, rfl⟩
instance : Ik Tryz.prog 21 IntKind.i32 := ⟨Tryz.underlying21⟩
instance : Cz Tryz.prog 22 1 := ⟨_, info_of Tryz.type22, rfl⟩
instance : Bz Tryz.prog 22 24 := ⟨_, info_of Tryz.type22, rfl⟩
instance : Zv Tryz.prog 22 (Value.slice none 0 0) := ⟨_, info_of Tryz.type22, rfl⟩
instance : Ag Tryz.prog 22 false := ⟨_, Tryz.underlying22, rfl⟩
instance : NI Tryz.prog 22 := ⟨_, Tryz.underlying22, rfl⟩
instance : El Tryz.prog 22 29 := ⟨Tryz.underlying22⟩
instance : Cz Tryz.prog 23 1 := ⟨_, info_of Tryz.type23, rfl⟩
instance : Bz Tryz.prog 23 8 := ⟨_, info_of Tryz.type23, rfl⟩
instance : Zv Tryz.prog 23 (Value.pointer none) := ⟨_, info_of Tryz.type23, rfl⟩
instance : Ag Tryz.prog 23 false := ⟨_, Tryz.underlying23, rfl⟩
instance : NI Tryz.prog 23 := ⟨_, Tryz.underlying23, rfl⟩
instance : Pt Tryz.prog 23 92 := ⟨Tryz.underlying23⟩
instance : Cz Tryz.prog 27 1 := ⟨_, info_of Tryz.type27, rfl⟩
instance : Bz Tryz.prog 27 24 := ⟨_, info_of Tryz.type27, rfl⟩
instance : Zv Tryz.prog 27 (Value.slice none 0 0) := ⟨_, info_of Tryz.type27, rfl⟩
instance : Ag Tryz.prog 27 false := ⟨_, Tryz.underlying27, rfl⟩
instance : NI Tryz.prog 27 := ⟨_, Tryz.underlying27, rfl⟩
instance : El Tryz.prog 27 63 := ⟨Tryz.underlying27⟩
instance : Cz Tryz.prog 29 6 := ⟨_, info_of Tryz.type29, rfl⟩
instance : Bz Tryz.prog 29 64 := ⟨_, info_of Tryz.type29, rfl⟩
instance : Zv Tryz.prog 29 (Value.agg #[Value.int IntKind.i64 0, Value.int IntKind.i64 0, Value.int IntKind.i64 0, Value.int IntKind.i64 0, Value.int IntKind.i64 0, Value.slice none 0 0]) := ⟨_, info_of Tryz.type29, rfl⟩
instance : Ag Tryz.prog 29 true := ⟨_, Tryz.underlying29, rfl⟩
instance : NI Tryz.prog 29 := ⟨_, Tryz.underlying29, rfl⟩
instance : Bd Tryz.prog 29 [(0, 1), (1, 1), (2, 1), (3, 1), (4, 1), (5, 1)] := ⟨_, Tryz.underlying29, .cons rfl ⟨_, info_of Tryz.type3, rfl⟩ (.cons rfl ⟨_, info_of Tryz.type3, rfl⟩ (.cons rfl ⟨_, info_of Tryz.type3, rfl⟩ (.cons rfl ⟨_, info_of Tryz.type3, rfl⟩ (.cons rfl ⟨_, info_of Tryz.type3, rfl⟩ (.cons rfl ⟨_, info_of Tryz.type27, rfl⟩ .nil)))))⟩
instance : Fl Tryz.prog 29 0 0 := ⟨_, _, _, Tryz.underlying29, rfl, rfl, ⟨_, info_of Tryz.type3, rfl⟩, by decide⟩
instance : Fl Tryz.prog 29 1 1 := ⟨_, _, _, Tryz.underlying29, rfl, rfl, ⟨_, info_of Tryz.type3, rfl⟩, by decide⟩
instance : Fl Tryz.prog 29 2 2 := ⟨_, _, _, Tryz.underlying29, rfl, rfl, ⟨_, info_of Tryz.type3, rfl⟩, by decide⟩
instance : Fl Tryz.prog 29 3 3 := ⟨_, _, _, Tryz.underlying29, rfl, rfl, ⟨_, info_of Tryz.type3, rfl⟩, by decide⟩
instance : Fl Tryz.prog 29 4 4 := ⟨_, _, _, Tryz.underlying29, rfl, rfl, ⟨_, info_of Tryz.type3, rfl⟩, by decide⟩
instance : Fl Tryz.prog 29 5 5 := ⟨_, _, _, Tryz.underlying29, rfl, rfl, ⟨_, info_of Tryz.type27, rfl⟩, by decide⟩
instance : Cz Tryz.prog 30 1 := ⟨_, info_of Tryz.type30, rfl⟩
instance : Bz Tryz.prog 30 8 := ⟨_, info_of Tryz.type30, rfl⟩
instance : Zv Tryz.prog 30 (Value.pointer none) := ⟨_, info_of Tryz.type30, rfl⟩
instance : Ag Tryz.prog 30 false := ⟨_, Tryz.underlying30, rfl⟩
instance : NI Tryz.prog 30 := ⟨_, Tryz.underlying30, rfl⟩
instance : Pt Tryz.prog 30 53 := ⟨Tryz.underlying30⟩
instance : Cz Tryz.prog 36 1 := ⟨_, info_of Tryz.type36, rfl⟩
instance : Bz Tryz.prog 36 24 := ⟨_, info_of Tryz.type36, rfl⟩
instance : Zv Tryz.prog 36 (Value.slice none 0 0) := ⟨_, info_of Tryz.type36, rfl⟩
instance : Ag Tryz.prog 36 false := ⟨_, Tryz.underlying36, rfl⟩
instance : NI Tryz.prog 36 := ⟨_, Tryz.underlying36, rfl⟩
instance : El Tryz.prog 36 67 := ⟨Tryz.underlying36⟩
instance : Cz Tryz.prog 46 1 := ⟨_, info_of Tryz.type46, rfl⟩
instance : Bz Tryz.prog 46 16 := ⟨_, info_of Tryz.type46, rfl⟩
instance : Zv Tryz.prog 46 (Value.nilIface) := ⟨_, info_of Tryz.type46, rfl⟩
instance : Ag Tryz.prog 46 false := ⟨_, Tryz.underlying46, rfl⟩
instance : Cz Tryz.prog 49 1 := ⟨_, info_of Tryz.type49, rfl⟩
instance : Bz Tryz.prog 49 24 := ⟨_, info_of Tryz.type49, rfl⟩
instance : Zv Tryz.prog 49 (Value.slice none 0 0) := ⟨_, info_of Tryz.type49, rfl⟩
instance : Ag Tryz.prog 49 false := ⟨_, Tryz.underlying49, rfl⟩
instance : NI Tryz.prog 49 := ⟨_, Tryz.underlying49, rfl⟩
instance : El Tryz.prog 49 54 := ⟨Tryz.underlying49⟩
instance : Cz Tryz.prog 50 1 := ⟨_, info_of Tryz.type50, rfl⟩
instance : Bz Tryz.prog 50 24 := ⟨_, info_of Tryz.type50, rfl⟩
instance : Zv Tryz.prog 50 (Value.slice none 0 0) := ⟨_, info_of Tryz.type50, rfl⟩
instance : Ag Tryz.prog 50 false := ⟨_, Tryz.underlying50, rfl⟩
instance : NI Tryz.prog 50 := ⟨_, Tryz.underlying50, rfl⟩
instance : El Tryz.prog 50 137 := ⟨Tryz.underlying50⟩
instance : Cz Tryz.prog 51 1 := ⟨_, info_of Tryz.type51, rfl⟩
instance : Bz Tryz.prog 51 24 := ⟨_, info_of Tryz.type51, rfl⟩
instance : Zv Tryz.prog 51 (Value.slice none 0 0) := ⟨_, info_of Tryz.type51, rfl⟩
instance : Ag Tryz.prog 51 false := ⟨_, Tryz.underlying51, rfl⟩
instance : NI Tryz.prog 51 := ⟨_, Tryz.underlying51, rfl⟩
instance : El Tryz.prog 51 71 := ⟨Tryz.underlying51⟩
instance : Cz Tryz.prog 53 4 := ⟨_, info_of Tryz.type53, rfl⟩
instance : Bz Tryz.prog 53 80 := ⟨_, info_of Tryz.type53, rfl⟩
instance : Zv Tryz.prog 53 (Value.agg #[Value.slice none 0 0, Value.slice none 0 0, Value.slice none 0 0, Value.bool false]) := ⟨_, info_of Tryz.type53, rfl⟩
instance : Ag Tryz.prog 53 true := ⟨_, Tryz.underlying53, rfl⟩
instance : NI Tryz.prog 53 := ⟨_, Tryz.underlying53, rfl⟩
instance : Bd Tryz.prog 53 [(0, 1), (1, 1), (2, 1), (3, 1)] := ⟨_, Tryz.underlying53, .cons rfl ⟨_, info_of Tryz.type49, rfl⟩ (.cons rfl ⟨_, info_of Tryz.type50, rfl⟩ (.cons rfl ⟨_, info_of Tryz.type51, rfl⟩ (.cons rfl ⟨_, info_of Tryz.type4, rfl⟩ .nil)))⟩
instance : Fl Tryz.prog 53 0 0 := ⟨_, _, _, Tryz.underlying53, rfl, rfl, ⟨_, info_of Tryz.type49, rfl⟩, by decide⟩
instance : Fl Tryz.prog 53 1 1 := ⟨_, _, _, Tryz.underlying53, rfl, rfl, ⟨_, info_of Tryz.type50, rfl⟩, by decide⟩
instance : Fl Tryz.prog 53 2 2 := ⟨_, _, _, Tryz.underlying53, rfl, rfl, ⟨_, info_of Tryz.type51, rfl⟩, by decide⟩
instance : Fl Tryz.prog 53 3 3 := ⟨_, _, _, Tryz.underlying53, rfl, rfl, ⟨_, info_of Tryz.type4, rfl⟩, by decide⟩
instance : Cz Tryz.prog 54 1 := ⟨_, info_of Tryz.type54, rfl⟩
instance : Bz Tryz.prog 54 8 := ⟨_, info_of Tryz.type54, rfl⟩
instance : Zv Tryz.prog 54 (Value.pointer none) := ⟨_, info_of Tryz.type54, rfl⟩
instance : Ag Tryz.prog 54 false := ⟨_, Tryz.underlying54, rfl⟩
instance : NI Tryz.prog 54 := ⟨_, Tryz.underlying54, rfl⟩
instance : Pt Tryz.prog 54 61 := ⟨Tryz.underlying54⟩
instance : Cz Tryz.prog 55 1 := ⟨_, info_of Tryz.type55, rfl⟩
instance : Bz Tryz.prog 55 24 := ⟨_, info_of Tryz.type55, rfl⟩
instance : Zv Tryz.prog 55 (Value.slice none 0 0) := ⟨_, info_of Tryz.type55, rfl⟩
instance : Ag Tryz.prog 55 false := ⟨_, Tryz.underlying55, rfl⟩
instance : NI Tryz.prog 55 := ⟨_, Tryz.underlying55, rfl⟩
instance : El Tryz.prog 55 247 := ⟨Tryz.underlying55⟩
instance : Cz Tryz.prog 56 1 := ⟨_, info_of Tryz.type56, rfl⟩
instance : Bz Tryz.prog 56 24 := ⟨_, info_of Tryz.type56, rfl⟩
instance : Zv Tryz.prog 56 (Value.slice none 0 0) := ⟨_, info_of Tryz.type56, rfl⟩
instance : Ag Tryz.prog 56 false := ⟨_, Tryz.underlying56, rfl⟩
instance : NI Tryz.prog 56 := ⟨_, Tryz.underlying56, rfl⟩
instance : El Tryz.prog 56 3 := ⟨Tryz.underlying56⟩
instance : Cz Tryz.prog 57 1 := ⟨_, info_of Tryz.type57, rfl⟩
instance : Bz Tryz.prog 57 24 := ⟨_, info_of Tryz.type57, rfl⟩
instance : Zv Tryz.prog 57 (Value.slice none 0 0) := ⟨_, info_of Tryz.type57, rfl⟩
instance : Ag Tryz.prog 57 false := ⟨_, Tryz.underlying57, rfl⟩
instance : NI Tryz.prog 57 := ⟨_, Tryz.underlying57, rfl⟩
instance : El Tryz.prog 57 258 := ⟨Tryz.underlying57⟩
instance : Cz Tryz.prog 58 1 := ⟨_, info_of Tryz.type58, rfl⟩
instance : Bz Tryz.prog 58 24 := ⟨_, info_of Tryz.type58, rfl⟩
instance : Zv Tryz.prog 58 (Value.slice none 0 0) := ⟨_, info_of Tryz.type58, rfl⟩
instance : Ag Tryz.prog 58 false := ⟨_, Tryz.underlying58, rfl⟩
instance : NI Tryz.prog 58 := ⟨_, Tryz.underlying58, rfl⟩
instance : El Tryz.prog 58 287 := ⟨Tryz.underlying58⟩
instance : Cz Tryz.prog 59 1 := ⟨_, info_of Tryz.type59, rfl⟩
instance : Bz Tryz.prog 59 24 := ⟨_, info_of Tryz.type59, rfl⟩
instance : Zv Tryz.prog 59 (Value.slice none 0 0) := ⟨_, info_of Tryz.type59, rfl⟩
instance : Ag Tryz.prog 59 false := ⟨_, Tryz.underlying59, rfl⟩
instance : NI Tryz.prog 59 := ⟨_, Tryz.underlying59, rfl⟩
instance : El Tryz.prog 59 251 := ⟨Tryz.underlying59⟩
instance : Cz Tryz.prog 61 12 := ⟨_, info_of Tryz.type61, rfl⟩
instance : Bz Tryz.prog 61 208 := ⟨_, info_of Tryz.type61, rfl⟩
instance : Zv Tryz.prog 61 (Value.agg #[Value.int IntKind.i64 0, Value.int IntKind.i64 0, Value.bool false, Value.slice none 0 0, Value.int IntKind.i64 0, Value.slice none 0 0, Value.slice none 0 0, Value.slice none 0 0, Value.slice none 0 0, Value.slice none 0 0, Value.int IntKind.i64 0, Value.slice none 0 0]) := ⟨_, info_of Tryz.type61, rfl⟩
instance : Ag Tryz.prog 61 true := ⟨_, Tryz.underlying61, rfl⟩
instance : NI Tryz.prog 61 := ⟨_, Tryz.underlying61, rfl⟩
instance : Bd Tryz.prog 61 [(0, 1), (1, 1), (2, 1), (3, 1), (4, 1), (5, 1), (6, 1), (7, 1), (8, 1), (9, 1), (10, 1), (11, 1)] := ⟨_, Tryz.underlying61, .cons rfl ⟨_, info_of Tryz.type3, rfl⟩ (.cons rfl ⟨_, info_of Tryz.type3, rfl⟩ (.cons rfl ⟨_, info_of Tryz.type4, rfl⟩ (.cons rfl ⟨_, info_of Tryz.type55, rfl⟩ (.cons rfl ⟨_, info_of Tryz.type3, rfl⟩ (.cons rfl ⟨_, info_of Tryz.type56, rfl⟩ (.cons rfl ⟨_, info_of Tryz.type57, rfl⟩ (.cons rfl ⟨_, info_of Tryz.type58, rfl⟩ (.cons rfl ⟨_, info_of Tryz.type59, rfl⟩ (.cons rfl ⟨_, info_of Tryz.type50, rfl⟩ (.cons rfl ⟨_, info_of Tryz.type3, rfl⟩ (.cons rfl ⟨_, info_of Tryz.type50, rfl⟩ .nil)))))))))))⟩
instance : Fl Tryz.prog 61 0 0 := ⟨_, _, _, Tryz.underlying61, rfl, rfl, ⟨_, info_of Tryz.type3, rfl⟩, by decide⟩
instance : Fl Tryz.prog 61 1 1 := ⟨_, _, _, Tryz.underlying61, rfl, rfl, ⟨_, info_of Tryz.type3, rfl⟩, by decide⟩
instance : Fl Tryz.prog 61 2 2 := ⟨_, _, _, Tryz.underlying61, rfl, rfl, ⟨_, info_of Tryz.type4, rfl⟩, by decide⟩
instance : Fl Tryz.prog 61 3 3 := ⟨_, _, _, Tryz.underlying61, rfl, rfl, ⟨_, info_of Tryz.type55, rfl⟩, by decide⟩
instance : Fl Tryz.prog 61 4 4 := ⟨_, _, _, Tryz.underlying61, rfl, rfl, ⟨_, info_of Tryz.type3, rfl⟩, by decide⟩
instance : Fl Tryz.prog 61 5 5 := ⟨_, _, _, Tryz.underlying61, rfl, rfl, ⟨_, info_of Tryz.type56, rfl⟩, by decide⟩
instance : Fl Tryz.prog 61 6 6 := ⟨_, _, _, Tryz.underlying61, rfl, rfl, ⟨_, info_of Tryz.type57, rfl⟩, by decide⟩
instance : Fl Tryz.prog 61 7 7 := ⟨_, _, _, Tryz.underlying61, rfl, rfl, ⟨_, info_of Tryz.type58, rfl⟩, by decide⟩
instance : Fl Tryz.prog 61 8 8 := ⟨_, _, _, Tryz.underlying61, rfl, rfl, ⟨_, info_of Tryz.type59, rfl⟩, by decide⟩
instance : Fl Tryz.prog 61 9 9 := ⟨_, _, _, Tryz.underlying61, rfl, rfl, ⟨_, info_of Tryz.type50, rfl⟩, by decide⟩
instance : Fl Tryz.prog 61 10 10 := ⟨_, _, _, Tryz.underlying61, rfl, rfl, ⟨_, info_of Tryz.type3, rfl⟩, by decide⟩
instance : Fl Tryz.prog 61 11 11 := ⟨_, _, _, Tryz.underlying61, rfl, rfl, ⟨_, info_of Tryz.type50, rfl⟩, by decide⟩
instance : Cz Tryz.prog 63 3 := ⟨_, info_of Tryz.type63, rfl⟩
instance : Bz Tryz.prog 63 24 := ⟨_, info_of Tryz.type63, rfl⟩
instance : Zv Tryz.prog 63 (Value.agg #[Value.bool false, Value.int IntKind.i64 0, Value.int IntKind.i64 0]) := ⟨_, info_of Tryz.type63, rfl⟩
instance : Ag Tryz.prog 63 true := ⟨_, Tryz.underlying63, rfl⟩
instance : NI Tryz.prog 63 := ⟨_, Tryz.underlying63, rfl⟩
instance : Bd Tryz.prog 63 [(0, 1), (1, 1), (2, 1)] := ⟨_, Tryz.underlying63, .cons rfl ⟨_, info_of Tryz.type4, rfl⟩ (.cons rfl ⟨_, info_of Tryz.type3, rfl⟩ (.cons rfl ⟨_, info_of Tryz.type3, rfl⟩ .nil))⟩
instance : Fl Tryz.prog 63 0 0 := ⟨_, _, _, Tryz.underlying63, rfl, rfl, ⟨_, info_of Tryz.type4, rfl⟩, by decide⟩
instance : Fl Tryz.prog 63 1 1 := ⟨_, _, _, Tryz.underlying63, rfl, rfl, ⟨_, info_of Tryz.type3, rfl⟩, by decide⟩
instance : Fl Tryz.prog 63 2 2 := ⟨_, _, _, Tryz.underlying63, rfl, rfl, ⟨_, info_of Tryz.type3, rfl⟩, by decide⟩
instance : Cz Tryz.prog 67 3 := ⟨_, info_of Tryz.type67, rfl⟩
instance : Bz Tryz.prog 67 8 := ⟨_, info_of Tryz.type67, rfl⟩
instance : Zv Tryz.prog 67 (Value.agg #[Value.bool false, Value.int IntKind.u8 0, Value.int IntKind.i32 0]) := ⟨_, info_of Tryz.type67, rfl⟩
instance : Ag Tryz.prog 67 true := ⟨_, Tryz.underlying67, rfl⟩
instance : NI Tryz.prog 67 := ⟨_, Tryz.underlying67, rfl⟩
instance : Bd Tryz.prog 67 [(0, 1), (1, 1), (2, 1)] := ⟨_, Tryz.underlying67, .cons rfl ⟨_, info_of Tryz.type4, rfl⟩ (.cons rfl ⟨_, info_of Tryz.type5, rfl⟩ (.cons rfl ⟨_, info_of Tryz.type21, rfl⟩ .nil))⟩
instance : Fl Tryz.prog 67 0 0 := ⟨_, _, _, Tryz.underlying67, rfl, rfl, ⟨_, info_of Tryz.type4, rfl⟩, by decide⟩
instance : Fl Tryz.prog 67 1 1 := ⟨_, _, _, Tryz.underlying67, rfl, rfl, ⟨_, info_of Tryz.type5, rfl⟩, by decide⟩
instance : Fl Tryz.prog 67 2 2 := ⟨_, _, _, Tryz.underlying67, rfl, rfl, ⟨_, info_of Tryz.type21, rfl⟩, by decide⟩
instance : Cz Tryz.prog 71 3 := ⟨_, info_of Tryz.type71, rfl⟩
instance : Bz Tryz.prog 71 56 := ⟨_, info_of Tryz.type71, rfl⟩
instance : Zv Tryz.prog 71 (Value.agg #[Value.slice none 0 0, Value.int IntKind.i64 0, Value.slice none 0 0]) := ⟨_, info_of Tryz.type71, rfl⟩
instance : Ag Tryz.prog 71 true := ⟨_, Tryz.underlying71, rfl⟩
instance : NI Tryz.prog 71 := ⟨_, Tryz.underlying71, rfl⟩
instance : Bd Tryz.prog 71 [(0, 1), (1, 1), (2, 1)] := ⟨_, Tryz.underlying71, .cons rfl ⟨_, info_of Tryz.type27, rfl⟩ (.cons rfl ⟨_, info_of Tryz.type3, rfl⟩ (.cons rfl ⟨_, info_of Tryz.type56, rfl⟩ .nil))⟩
instance : Fl Tryz.prog 71 0 0 := ⟨_, _, _, Tryz.underlying71, rfl, rfl, ⟨_, info_of Tryz.type27, rfl⟩, by decide⟩
instance : Fl Tryz.prog 71 1 1 := ⟨_, _, _, Tryz.underlying71, rfl, rfl, ⟨_, info_of Tryz.type3, rfl⟩, by decide⟩
instance : Fl Tryz.prog 71 2 2 := ⟨_, _, _, Tryz.underlying71, rfl, rfl, ⟨_, info_of Tryz.type56, rfl⟩, by decide⟩
instance : Cz Tryz.prog 74 0 := ⟨_, info_of Tryz.type74, rfl⟩
instance : Bz Tryz.prog 74 0 := ⟨_, info_of Tryz.type74, rfl⟩
instance : Zv Tryz.prog 74 (Value.agg #[]) := ⟨_, info_of Tryz.type74, rfl⟩
instance : Ag Tryz.prog 74 true := ⟨_, Tryz.underlying74, rfl⟩
instance : NI Tryz.prog 74 := ⟨_, Tryz.underlying74, rfl⟩
instance : Cz Tryz.prog 75 1 := ⟨_, info_of Tryz.type75, rfl⟩
instance : Bz Tryz.prog 75 4 := ⟨_, info_of Tryz.type75, rfl⟩
instance : Zv Tryz.prog 75 (Value.int IntKind.u32 0) := ⟨_, info_of Tryz.type75, rfl⟩
instance : Ag Tryz.prog 75 false := ⟨_, Tryz.underlying75, rfl⟩
instance : NI Tryz.prog 75 := ⟨_, Tryz.underlying75, rfl⟩
instance : Ik Tryz.prog 75 IntKind.u32 := ⟨Tryz.underlying75⟩
instance : Cz Tryz.prog 77 2 := ⟨_, info_of Tryz.type77, rfl⟩
instance : Bz Tryz.prog 77 8 := ⟨_, info_of Tryz.type77, rfl⟩
instance : Zv Tryz.prog 77 (Value.agg #[Value.int IntKind.i32 0, Value.int IntKind.u32 0]) := ⟨_, info_of Tryz.type77, rfl⟩
instance : Ag Tryz.prog 77 true := ⟨_, Tryz.underlying77, rfl⟩
instance : NI Tryz.prog 77 := ⟨_, Tryz.underlying77, rfl⟩
instance : Bd Tryz.prog 77 [(0, 1), (1, 1)] := ⟨_, Tryz.underlying77, .cons rfl ⟨_, info_of Tryz.type21, rfl⟩ (.cons rfl ⟨_, info_of Tryz.type75, rfl⟩ .nil)⟩
instance : Fl Tryz.prog 77 0 0 := ⟨_, _, _, Tryz.underlying77, rfl, rfl, ⟨_, info_of Tryz.type21, rfl⟩, by decide⟩
instance : Fl Tryz.prog 77 1 1 := ⟨_, _, _, Tryz.underlying77, rfl, rfl, ⟨_, info_of Tryz.type75, rfl⟩, by decide⟩
instance : Cz Tryz.prog 79 2 := ⟨_, info_of Tryz.type79, rfl⟩
instance : Bz Tryz.prog 79 8 := ⟨_, info_of Tryz.type79, rfl⟩
instance : Zv Tryz.prog 79 (Value.agg #[Value.int IntKind.i32 0, Value.int IntKind.u32 0]) := ⟨_, info_of Tryz.type79, rfl⟩
instance : Ag Tryz.prog 79 true := ⟨_, Tryz.underlying79, rfl⟩
instance : NI Tryz.prog 79 := ⟨_, Tryz.underlying79, rfl⟩
instance : Bd Tryz.prog 79 [(0, 0), (0, 2)] := ⟨_, Tryz.underlying79, .cons rfl ⟨_, info_of Tryz.type74, rfl⟩ (.cons rfl ⟨_, info_of Tryz.type77, rfl⟩ .nil)⟩
instance : Fl Tryz.prog 79 1 0 := ⟨_, _, _, Tryz.underlying79, rfl, rfl, ⟨_, info_of Tryz.type77, rfl⟩, by decide⟩
instance : Cz Tryz.prog 80 1 := ⟨_, info_of Tryz.type80, rfl⟩
instance : Bz Tryz.prog 80 24 := ⟨_, info_of Tryz.type80, rfl⟩
instance : Zv Tryz.prog 80 (Value.slice none 0 0) := ⟨_, info_of Tryz.type80, rfl⟩
instance : Ag Tryz.prog 80 false := ⟨_, Tryz.underlying80, rfl⟩
instance : NI Tryz.prog 80 := ⟨_, Tryz.underlying80, rfl⟩
instance : El Tryz.prog 80 114 := ⟨Tryz.underlying80⟩
instance : Cz Tryz.prog 81 1 := ⟨_, info_of Tryz.type81, rfl⟩
instance : Bz Tryz.prog 81 24 := ⟨_, info_of Tryz.type81, rfl⟩
instance : Zv Tryz.prog 81 (Value.slice none 0 0) := ⟨_, info_of Tryz.type81, rfl⟩
instance : Ag Tryz.prog 81 false := ⟨_, Tryz.underlying81, rfl⟩
instance : NI Tryz.prog 81 := ⟨_, Tryz.underlying81, rfl⟩
instance : El Tryz.prog 81 190 := ⟨Tryz.underlying81⟩
instance : Cz Tryz.prog 82 1 := ⟨_, info_of Tryz.type82, rfl⟩
instance : Bz Tryz.prog 82 24 := ⟨_, info_of Tryz.type82, rfl⟩
instance : Zv Tryz.prog 82 (Value.slice none 0 0) := ⟨_, info_of Tryz.type82, rfl⟩
instance : Ag Tryz.prog 82 false := ⟨_, Tryz.underlying82, rfl⟩
instance : NI Tryz.prog 82 := ⟨_, Tryz.underlying82, rfl⟩
instance : El Tryz.prog 82 126 := ⟨Tryz.underlying82⟩
instance : Cz Tryz.prog 83 1 := ⟨_, info_of Tryz.type83, rfl⟩
instance : Bz Tryz.prog 83 8 := ⟨_, info_of Tryz.type83, rfl⟩
instance : Zv Tryz.prog 83 (Value.chan none) := ⟨_, info_of Tryz.type83, rfl⟩
instance : Ag Tryz.prog 83 false := ⟨_, Tryz.underlying83, rfl⟩
instance : NI Tryz.prog 83 := ⟨_, Tryz.underlying83, rfl⟩
instance : Cz Tryz.prog 84 0 := ⟨_, info_of Tryz.type84, rfl⟩
instance : Bz Tryz.prog 84 0 := ⟨_, info_of Tryz.type84, rfl⟩
instance : Zv Tryz.prog 84 (Value.agg #[]) := ⟨_, info_of Tryz.type84, rfl⟩
instance : Ag Tryz.prog 84 true := ⟨_, Tryz.underlying84, rfl⟩
instance : NI Tryz.prog 84 := ⟨_, Tryz.underlying84, rfl⟩
instance : Cz Tryz.prog 85 0 := ⟨_, info_of Tryz.type85, rfl⟩
instance : Bz Tryz.prog 85 0 := ⟨_, info_of Tryz.type85, rfl⟩
instance : Zv Tryz.prog 85 (Value.agg #[]) := ⟨_, info_of Tryz.type85, rfl⟩
instance : Ag Tryz.prog 85 true := ⟨_, Tryz.underlying85, rfl⟩
instance : NI Tryz.prog 85 := ⟨_, Tryz.underlying85, rfl⟩
instance : Cz Tryz.prog 86 1 := ⟨_, info_of Tryz.type86, rfl⟩
instance : Bz Tryz.prog 86 8 := ⟨_, info_of Tryz.type86, rfl⟩
instance : Zv Tryz.prog 86 (Value.int IntKind.u64 0) := ⟨_, info_of Tryz.type86, rfl⟩
instance : Ag Tryz.prog 86 false := ⟨_, Tryz.underlying86, rfl⟩
instance : NI Tryz.prog 86 := ⟨_, Tryz.underlying86, rfl⟩
instance : Ik Tryz.prog 86 IntKind.u64 := ⟨Tryz.underlying86⟩
instance : Cz Tryz.prog 88 1 := ⟨_, info_of Tryz.type88, rfl⟩
instance : Bz Tryz.prog 88 8 := ⟨_, info_of Tryz.type88, rfl⟩
instance : Zv Tryz.prog 88 (Value.agg #[Value.int IntKind.u64 0]) := ⟨_, info_of Tryz.type88, rfl⟩
instance : Ag Tryz.prog 88 true := ⟨_, Tryz.underlying88, rfl⟩
instance : NI Tryz.prog 88 := ⟨_, Tryz.underlying88, rfl⟩
instance : Bd Tryz.prog 88 [(0, 0), (0, 0), (0, 1)] := ⟨_, Tryz.underlying88, .cons rfl ⟨_, info_of Tryz.type84, rfl⟩ (.cons rfl ⟨_, info_of Tryz.type85, rfl⟩ (.cons rfl ⟨_, info_of Tryz.type86, rfl⟩ .nil))⟩
instance : Fl Tryz.prog 88 2 0 := ⟨_, _, _, Tryz.underlying88, rfl, rfl, ⟨_, info_of Tryz.type86, rfl⟩, by decide⟩
instance : Cz Tryz.prog 90 2 := ⟨_, info_of Tryz.type90, rfl⟩
instance : Bz Tryz.prog 90 16 := ⟨_, info_of Tryz.type90, rfl⟩
instance : Zv Tryz.prog 90 (Value.agg #[Value.int IntKind.u64 0, Value.int IntKind.u32 0]) := ⟨_, info_of Tryz.type90, rfl⟩
instance : Ag Tryz.prog 90 true := ⟨_, Tryz.underlying90, rfl⟩
instance : NI Tryz.prog 90 := ⟨_, Tryz.underlying90, rfl⟩
instance : Bd Tryz.prog 90 [(0, 0), (0, 1), (1, 1)] := ⟨_, Tryz.underlying90, .cons rfl ⟨_, info_of Tryz.type74, rfl⟩ (.cons rfl ⟨_, info_of Tryz.type88, rfl⟩ (.cons rfl ⟨_, info_of Tryz.type75, rfl⟩ .nil))⟩
instance : Fl Tryz.prog 90 1 0 := ⟨_, _, _, Tryz.underlying90, rfl, rfl, ⟨_, info_of Tryz.type88, rfl⟩, by decide⟩
instance : Fl Tryz.prog 90 2 1 := ⟨_, _, _, Tryz.underlying90, rfl, rfl, ⟨_, info_of Tryz.type75, rfl⟩, by decide⟩
instance : Cz Tryz.prog 92 9 := ⟨_, info_of Tryz.type92, rfl⟩
instance : Bz Tryz.prog 92 112 := ⟨_, info_of Tryz.type92, rfl⟩
instance : Zv Tryz.prog 92 (Value.agg #[Value.int IntKind.i32 0, Value.int IntKind.u32 0, Value.slice none 0 0, Value.slice none 0 0, Value.slice none 0 0, Value.chan none, Value.bool false, Value.int IntKind.u64 0, Value.int IntKind.u32 0]) := ⟨_, info_of Tryz.type92, rfl⟩
instance : Ag Tryz.prog 92 true := ⟨_, Tryz.underlying92, rfl⟩
instance : NI Tryz.prog 92 := ⟨_, Tryz.underlying92, rfl⟩
instance : Bd Tryz.prog 92 [(0, 2), (2, 1), (3, 1), (4, 1), (5, 1), (6, 1), (7, 2)] := ⟨_, Tryz.underlying92, .cons rfl ⟨_, info_of Tryz.type79, rfl⟩ (.cons rfl ⟨_, info_of Tryz.type80, rfl⟩ (.cons rfl ⟨_, info_of Tryz.type81, rfl⟩ (.cons rfl ⟨_, info_of Tryz.type82, rfl⟩ (.cons rfl ⟨_, info_of Tryz.type83, rfl⟩ (.cons rfl ⟨_, info_of Tryz.type4, rfl⟩ (.cons rfl ⟨_, info_of Tryz.type90, rfl⟩ .nil))))))⟩
instance : Fl Tryz.prog 92 0 0 := ⟨_, _, _, Tryz.underlying92, rfl, rfl, ⟨_, info_of Tryz.type79, rfl⟩, by decide⟩
instance : Fl Tryz.prog 92 1 2 := ⟨_, _, _, Tryz.underlying92, rfl, rfl, ⟨_, info_of Tryz.type80, rfl⟩, by decide⟩
instance : Fl Tryz.prog 92 2 3 := ⟨_, _, _, Tryz.underlying92, rfl, rfl, ⟨_, info_of Tryz.type81, rfl⟩, by decide⟩
instance : Fl Tryz.prog 92 3 4 := ⟨_, _, _, Tryz.underlying92, rfl, rfl, ⟨_, info_of Tryz.type82, rfl⟩, by decide⟩
instance : Fl Tryz.prog 92 4 5 := ⟨_, _, _, Tryz.underlying92, rfl, rfl, ⟨_, info_of Tryz.type83, rfl⟩, by decide⟩
instance : Fl Tryz.prog 92 5 6 := ⟨_, _, _, Tryz.underlying92, rfl, rfl, ⟨_, info_of Tryz.type4, rfl⟩, by decide⟩
instance : Fl Tryz.prog 92 6 7 := ⟨_, _, _, Tryz.underlying92, rfl, rfl, ⟨_, info_of Tryz.type90, rfl⟩, by decide⟩
instance : Cz Tryz.prog 93 1 := ⟨_, info_of Tryz.type93, rfl⟩
instance : Bz Tryz.prog 93 8 := ⟨_, info_of Tryz.type93, rfl⟩
instance : Zv Tryz.prog 93 (Value.pointer none) := ⟨_, info_of Tryz.type93, rfl⟩
instance : Ag Tryz.prog 93 false := ⟨_, Tryz.underlying93, rfl⟩
instance : NI Tryz.prog 93 := ⟨_, Tryz.underlying93, rfl⟩
instance : Pt Tryz.prog 93 96 := ⟨Tryz.underlying93⟩
instance : Cz Tryz.prog 94 1 := ⟨_, info_of Tryz.type94, rfl⟩
instance : Bz Tryz.prog 94 24 := ⟨_, info_of Tryz.type94, rfl⟩
instance : Zv Tryz.prog 94 (Value.slice none 0 0) := ⟨_, info_of Tryz.type94, rfl⟩
instance : Ag Tryz.prog 94 false := ⟨_, Tryz.underlying94, rfl⟩
instance : NI Tryz.prog 94 := ⟨_, Tryz.underlying94, rfl⟩
instance : El Tryz.prog 94 150 := ⟨Tryz.underlying94⟩
instance : Cz Tryz.prog 96 1 := ⟨_, info_of Tryz.type96, rfl⟩
instance : Bz Tryz.prog 96 24 := ⟨_, info_of Tryz.type96, rfl⟩
instance : Zv Tryz.prog 96 (Value.agg #[Value.slice none 0 0]) := ⟨_, info_of Tryz.type96, rfl⟩
instance : Ag Tryz.prog 96 true := ⟨_, Tryz.underlying96, rfl⟩
instance : NI Tryz.prog 96 := ⟨_, Tryz.underlying96, rfl⟩
instance : Bd Tryz.prog 96 [(0, 1)] := ⟨_, Tryz.underlying96, .cons rfl ⟨_, info_of Tryz.type94, rfl⟩ .nil⟩
instance : Fl Tryz.prog 96 0 0 := ⟨_, _, _, Tryz.underlying96, rfl, rfl, ⟨_, info_of Tryz.type94, rfl⟩, by decide⟩
instance : Cz Tryz.prog 98 1 := ⟨_, info_of Tryz.type98, rfl⟩
instance : Bz Tryz.prog 98 8 := ⟨_, info_of Tryz.type98, rfl⟩
instance : Zv Tryz.prog 98 (Value.pointer none) := ⟨_, info_of Tryz.type98, rfl⟩
instance : Ag Tryz.prog 98 false := ⟨_, Tryz.underlying98, rfl⟩
instance : NI Tryz.prog 98 := ⟨_, Tryz.underlying98, rfl⟩
instance : Pt Tryz.prog 98 102 := ⟨Tryz.underlying98⟩
instance : Cz Tryz.prog 99 1 := ⟨_, info_of Tryz.type99, rfl⟩
instance : Bz Tryz.prog 99 24 := ⟨_, info_of Tryz.type99, rfl⟩
instance : Zv Tryz.prog 99 (Value.slice none 0 0) := ⟨_, info_of Tryz.type99, rfl⟩
instance : Ag Tryz.prog 99 false := ⟨_, Tryz.underlying99, rfl⟩
instance : NI Tryz.prog 99 := ⟨_, Tryz.underlying99, rfl⟩
instance : El Tryz.prog 99 36 := ⟨Tryz.underlying99⟩
instance : Cz Tryz.prog 100 1 := ⟨_, info_of Tryz.type100, rfl⟩
instance : Bz Tryz.prog 100 24 := ⟨_, info_of Tryz.type100, rfl⟩
instance : Zv Tryz.prog 100 (Value.slice none 0 0) := ⟨_, info_of Tryz.type100, rfl⟩
instance : Ag Tryz.prog 100 false := ⟨_, Tryz.underlying100, rfl⟩
instance : NI Tryz.prog 100 := ⟨_, Tryz.underlying100, rfl⟩
instance : El Tryz.prog 100 104 := ⟨Tryz.underlying100⟩
instance : Cz Tryz.prog 102 4 := ⟨_, info_of Tryz.type102, rfl⟩
instance : Bz Tryz.prog 102 96 := ⟨_, info_of Tryz.type102, rfl⟩
instance : Zv Tryz.prog 102 (Value.agg #[Value.slice none 0 0, Value.slice none 0 0, Value.slice none 0 0, Value.slice none 0 0]) := ⟨_, info_of Tryz.type102, rfl⟩
instance : Ag Tryz.prog 102 true := ⟨_, Tryz.underlying102, rfl⟩
instance : NI Tryz.prog 102 := ⟨_, Tryz.underlying102, rfl⟩
instance : Bd Tryz.prog 102 [(0, 1), (1, 1), (2, 1), (3, 1)] := ⟨_, Tryz.underlying102, .cons rfl ⟨_, info_of Tryz.type99, rfl⟩ (.cons rfl ⟨_, info_of Tryz.type56, rfl⟩ (.cons rfl ⟨_, info_of Tryz.type100, rfl⟩ (.cons rfl ⟨_, info_of Tryz.type56, rfl⟩ .nil)))⟩
instance : Fl Tryz.prog 102 0 0 := ⟨_, _, _, Tryz.underlying102, rfl, rfl, ⟨_, info_of Tryz.type99, rfl⟩, by decide⟩
instance : Fl Tryz.prog 102 1 1 := ⟨_, _, _, Tryz.underlying102, rfl, rfl, ⟨_, info_of Tryz.type56, rfl⟩, by decide⟩
instance : Fl Tryz.prog 102 2 2 := ⟨_, _, _, Tryz.underlying102, rfl, rfl, ⟨_, info_of Tryz.type100, rfl⟩, by decide⟩
instance : Fl Tryz.prog 102 3 3 := ⟨_, _, _, Tryz.underlying102, rfl, rfl, ⟨_, info_of Tryz.type56, rfl⟩, by decide⟩
instance : Cz Tryz.prog 104 1 := ⟨_, info_of Tryz.type104, rfl⟩
instance : Bz Tryz.prog 104 24 := ⟨_, info_of Tryz.type104, rfl⟩
instance : Zv Tryz.prog 104 (Value.slice none 0 0) := ⟨_, info_of Tryz.type104, rfl⟩
instance : Ag Tryz.prog 104 false := ⟨_, Tryz.underlying104, rfl⟩
instance : NI Tryz.prog 104 := ⟨_, Tryz.underlying104, rfl⟩
instance : El Tryz.prog 104 21 := ⟨Tryz.underlying104⟩
instance : Cz Tryz.prog 114 1 := ⟨_, info_of Tryz.type114, rfl⟩
instance : Bz Tryz.prog 114 8 := ⟨_, info_of Tryz.type114, rfl⟩
instance : Zv Tryz.prog 114 (Value.pointer none) := ⟨_, info_of Tryz.type114, rfl⟩
instance : Ag Tryz.prog 114 false := ⟨_, Tryz.underlying114, rfl⟩
instance : NI Tryz.prog 114 := ⟨_, Tryz.underlying114, rfl⟩
instance : Pt Tryz.prog 114 120 := ⟨Tryz.underlying114⟩
instance : Cz Tryz.prog 115 1 := ⟨_, info_of Tryz.type115, rfl⟩
instance : Bz Tryz.prog 115 8 := ⟨_, info_of Tryz.type115, rfl⟩
instance : Zv Tryz.prog 115 (Value.pointer none) := ⟨_, info_of Tryz.type115, rfl⟩
instance : Ag Tryz.prog 115 false := ⟨_, Tryz.underlying115, rfl⟩
instance : NI Tryz.prog 115 := ⟨_, Tryz.underlying115, rfl⟩
instance : Pt Tryz.prog 115 180 := ⟨Tryz.underlying115⟩
instance : Cz Tryz.prog 117 1 := ⟨_, info_of Tryz.type117, rfl⟩
instance : Bz Tryz.prog 117 8 := ⟨_, info_of Tryz.type117, rfl⟩
instance : Zv Tryz.prog 117 (Value.chan none) := ⟨_, info_of Tryz.type117, rfl⟩
instance : Ag Tryz.prog 117 false := ⟨_, Tryz.underlying117, rfl⟩
instance : NI Tryz.prog 117 := ⟨_, Tryz.underlying117, rfl⟩
instance : Cz Tryz.prog 118 1 := ⟨_, info_of Tryz.type118, rfl⟩
instance : Bz Tryz.prog 118 8 := ⟨_, info_of Tryz.type118, rfl⟩
instance : Zv Tryz.prog 118 (Value.chan none) := ⟨_, info_of Tryz.type118, rfl⟩
instance : Ag Tryz.prog 118 false := ⟨_, Tryz.underlying118, rfl⟩
instance : NI Tryz.prog 118 := ⟨_, Tryz.underlying118, rfl⟩
instance : Cz Tryz.prog 120 3 := ⟨_, info_of Tryz.type120, rfl⟩
instance : Bz Tryz.prog 120 24 := ⟨_, info_of Tryz.type120, rfl⟩
instance : Zv Tryz.prog 120 (Value.agg #[Value.pointer none, Value.chan none, Value.chan none]) := ⟨_, info_of Tryz.type120, rfl⟩
instance : Ag Tryz.prog 120 true := ⟨_, Tryz.underlying120, rfl⟩
instance : NI Tryz.prog 120 := ⟨_, Tryz.underlying120, rfl⟩
instance : Bd Tryz.prog 120 [(0, 1), (1, 1), (2, 1)] := ⟨_, Tryz.underlying120, .cons rfl ⟨_, info_of Tryz.type115, rfl⟩ (.cons rfl ⟨_, info_of Tryz.type117, rfl⟩ (.cons rfl ⟨_, info_of Tryz.type118, rfl⟩ .nil))⟩
instance : Fl Tryz.prog 120 0 0 := ⟨_, _, _, Tryz.underlying120, rfl, rfl, ⟨_, info_of Tryz.type115, rfl⟩, by decide⟩
instance : Fl Tryz.prog 120 1 1 := ⟨_, _, _, Tryz.underlying120, rfl, rfl, ⟨_, info_of Tryz.type117, rfl⟩, by decide⟩
instance : Fl Tryz.prog 120 2 2 := ⟨_, _, _, Tryz.underlying120, rfl, rfl, ⟨_, info_of Tryz.type118, rfl⟩, by decide⟩
instance : Cz Tryz.prog 126 3 := ⟨_, info_of Tryz.type126, rfl⟩
instance : Bz Tryz.prog 126 56 := ⟨_, info_of Tryz.type126, rfl⟩
instance : Zv Tryz.prog 126 (Value.agg #[Value.slice none 0 0, Value.int IntKind.i64 0, Value.slice none 0 0]) := ⟨_, info_of Tryz.type126, rfl⟩
instance : Ag Tryz.prog 126 true := ⟨_, Tryz.underlying126, rfl⟩
instance : NI Tryz.prog 126 := ⟨_, Tryz.underlying126, rfl⟩
instance : Bd Tryz.prog 126 [(0, 1), (1, 1), (2, 1)] := ⟨_, Tryz.underlying126, .cons rfl ⟨_, info_of Tryz.type36, rfl⟩ (.cons rfl ⟨_, info_of Tryz.type3, rfl⟩ (.cons rfl ⟨_, info_of Tryz.type104, rfl⟩ .nil))⟩
instance : Fl Tryz.prog 126 0 0 := ⟨_, _, _, Tryz.underlying126, rfl, rfl, ⟨_, info_of Tryz.type36, rfl⟩, by decide⟩
instance : Fl Tryz.prog 126 1 1 := ⟨_, _, _, Tryz.underlying126, rfl, rfl, ⟨_, info_of Tryz.type3, rfl⟩, by decide⟩
instance : Fl Tryz.prog 126 2 2 := ⟨_, _, _, Tryz.underlying126, rfl, rfl, ⟨_, info_of Tryz.type104, rfl⟩, by decide⟩
instance : Cz Tryz.prog 127 1 := ⟨_, info_of Tryz.type127, rfl⟩
instance : Bz Tryz.prog 127 8 := ⟨_, info_of Tryz.type127, rfl⟩
instance : Zv Tryz.prog 127 (Value.nilFunc) := ⟨_, info_of Tryz.type127, rfl⟩
instance : Ag Tryz.prog 127 false := ⟨_, Tryz.underlying127, rfl⟩
instance : NI Tryz.prog 127 := ⟨_, Tryz.underlying127, rfl⟩
instance : Cz Tryz.prog 128 1 := ⟨_, info_of Tryz.type128, rfl⟩
instance : Bz Tryz.prog 128 8 := ⟨_, info_of Tryz.type128, rfl⟩
instance : Zv Tryz.prog 128 (Value.pointer none) := ⟨_, info_of Tryz.type128, rfl⟩
instance : Ag Tryz.prog 128 false := ⟨_, Tryz.underlying128, rfl⟩
instance : NI Tryz.prog 128 := ⟨_, Tryz.underlying128, rfl⟩
instance : Pt Tryz.prog 128 132 := ⟨Tryz.underlying128⟩
instance : Cz Tryz.prog 130 1 := ⟨_, info_of Tryz.type130, rfl⟩
instance : Bz Tryz.prog 130 8 := ⟨_, info_of Tryz.type130, rfl⟩
instance : Zv Tryz.prog 130 (Value.pointer none) := ⟨_, info_of Tryz.type130, rfl⟩
instance : Ag Tryz.prog 130 false := ⟨_, Tryz.underlying130, rfl⟩
instance : NI Tryz.prog 130 := ⟨_, Tryz.underlying130, rfl⟩
instance : Pt Tryz.prog 130 128 := ⟨Tryz.underlying130⟩
instance : Cz Tryz.prog 132 3 := ⟨_, info_of Tryz.type132, rfl⟩
instance : Bz Tryz.prog 132 40 := ⟨_, info_of Tryz.type132, rfl⟩
instance : Zv Tryz.prog 132 (Value.agg #[Value.string (ByteArray.mk #[]), Value.int IntKind.i64 0, Value.nilIface]) := ⟨_, info_of Tryz.type132, rfl⟩
instance : Ag Tryz.prog 132 true := ⟨_, Tryz.underlying132, rfl⟩
instance : NI Tryz.prog 132 := ⟨_, Tryz.underlying132, rfl⟩
instance : Bd Tryz.prog 132 [(0, 1), (1, 1), (2, 1)] := ⟨_, Tryz.underlying132, .cons rfl ⟨_, info_of Tryz.type9, rfl⟩ (.cons rfl ⟨_, info_of Tryz.type3, rfl⟩ (.cons rfl ⟨_, info_of Tryz.type46, rfl⟩ .nil))⟩
instance : Fl Tryz.prog 132 0 0 := ⟨_, _, _, Tryz.underlying132, rfl, rfl, ⟨_, info_of Tryz.type9, rfl⟩, by decide⟩
instance : Fl Tryz.prog 132 1 1 := ⟨_, _, _, Tryz.underlying132, rfl, rfl, ⟨_, info_of Tryz.type3, rfl⟩, by decide⟩
instance : Fl Tryz.prog 132 2 2 := ⟨_, _, _, Tryz.underlying132, rfl, rfl, ⟨_, info_of Tryz.type46, rfl⟩, by decide⟩
instance : Cz Tryz.prog 133 1 := ⟨_, info_of Tryz.type133, rfl⟩
instance : Bz Tryz.prog 133 24 := ⟨_, info_of Tryz.type133, rfl⟩
instance : Zv Tryz.prog 133 (Value.slice none 0 0) := ⟨_, info_of Tryz.type133, rfl⟩
instance : Ag Tryz.prog 133 false := ⟨_, Tryz.underlying133, rfl⟩
instance : NI Tryz.prog 133 := ⟨_, Tryz.underlying133, rfl⟩
instance : El Tryz.prog 133 46 := ⟨Tryz.underlying133⟩
instance : Cz Tryz.prog 137 7 := ⟨_, info_of Tryz.type137, rfl⟩
instance : Bz Tryz.prog 137 88 := ⟨_, info_of Tryz.type137, rfl⟩
instance : Zv Tryz.prog 137 (Value.agg #[Value.int IntKind.i64 0, Value.int IntKind.i64 0, Value.int IntKind.i64 0, Value.int IntKind.i64 0, Value.bool false, Value.slice none 0 0, Value.slice none 0 0]) := ⟨_, info_of Tryz.type137, rfl⟩
instance : Ag Tryz.prog 137 true := ⟨_, Tryz.underlying137, rfl⟩
instance : NI Tryz.prog 137 := ⟨_, Tryz.underlying137, rfl⟩
instance : Bd Tryz.prog 137 [(0, 1), (1, 1), (2, 1), (3, 1), (4, 1), (5, 1), (6, 1)] := ⟨_, Tryz.underlying137, .cons rfl ⟨_, info_of Tryz.type3, rfl⟩ (.cons rfl ⟨_, info_of Tryz.type3, rfl⟩ (.cons rfl ⟨_, info_of Tryz.type3, rfl⟩ (.cons rfl ⟨_, info_of Tryz.type3, rfl⟩ (.cons rfl ⟨_, info_of Tryz.type4, rfl⟩ (.cons rfl ⟨_, info_of Tryz.type27, rfl⟩ (.cons rfl ⟨_, info_of Tryz.type56, rfl⟩ .nil))))))⟩
instance : Fl Tryz.prog 137 0 0 := ⟨_, _, _, Tryz.underlying137, rfl, rfl, ⟨_, info_of Tryz.type3, rfl⟩, by decide⟩
instance : Fl Tryz.prog 137 1 1 := ⟨_, _, _, Tryz.underlying137, rfl, rfl, ⟨_, info_of Tryz.type3, rfl⟩, by decide⟩
instance : Fl Tryz.prog 137 2 2 := ⟨_, _, _, Tryz.underlying137, rfl, rfl, ⟨_, info_of Tryz.type3, rfl⟩, by decide⟩
instance : Fl Tryz.prog 137 3 3 := ⟨_, _, _, Tryz.underlying137, rfl, rfl, ⟨_, info_of Tryz.type3, rfl⟩, by decide⟩
instance : Fl Tryz.prog 137 4 4 := ⟨_, _, _, Tryz.underlying137, rfl, rfl, ⟨_, info_of Tryz.type4, rfl⟩, by decide⟩
instance : Fl Tryz.prog 137 5 5 := ⟨_, _, _, Tryz.underlying137, rfl, rfl, ⟨_, info_of Tryz.type27, rfl⟩, by decide⟩
instance : Fl Tryz.prog 137 6 6 := ⟨_, _, _, Tryz.underlying137, rfl, rfl, ⟨_, info_of Tryz.type56, rfl⟩, by decide⟩
instance : Cz Tryz.prog 139 1 := ⟨_, info_of Tryz.type139, rfl⟩
instance : Bz Tryz.prog 139 8 := ⟨_, info_of Tryz.type139, rfl⟩
instance : Zv Tryz.prog 139 (Value.pointer none) := ⟨_, info_of Tryz.type139, rfl⟩
instance : Ag Tryz.prog 139 false := ⟨_, Tryz.underlying139, rfl⟩
instance : NI Tryz.prog 139 := ⟨_, Tryz.underlying139, rfl⟩
instance : Pt Tryz.prog 139 90 := ⟨Tryz.underlying139⟩
instance : Cz Tryz.prog 141 1 := ⟨_, info_of Tryz.type141, rfl⟩
instance : Bz Tryz.prog 141 8 := ⟨_, info_of Tryz.type141, rfl⟩
instance : Zv Tryz.prog 141 (Value.int IntKind.u64 0) := ⟨_, info_of Tryz.type141, rfl⟩
instance : Ag Tryz.prog 141 false := ⟨_, Tryz.underlying141, rfl⟩
instance : NI Tryz.prog 141 := ⟨_, Tryz.underlying141, rfl⟩
instance : Ik Tryz.prog 141 IntKind.u64 := ⟨Tryz.underlying141⟩
instance : Cz Tryz.prog 143 1 := ⟨_, info_of Tryz.type143, rfl⟩
instance : Bz Tryz.prog 143 8 := ⟨_, info_of Tryz.type143, rfl⟩
instance : Zv Tryz.prog 143 (Value.pointer none) := ⟨_, info_of Tryz.type143, rfl⟩
instance : Ag Tryz.prog 143 false := ⟨_, Tryz.underlying143, rfl⟩
instance : NI Tryz.prog 143 := ⟨_, Tryz.underlying143, rfl⟩
instance : Cz Tryz.prog 147 1 := ⟨_, info_of Tryz.type147, rfl⟩
instance : Bz Tryz.prog 147 8 := ⟨_, info_of Tryz.type147, rfl⟩
instance : Zv Tryz.prog 147 (Value.pointer none) := ⟨_, info_of Tryz.type147, rfl⟩
instance : Ag Tryz.prog 147 false := ⟨_, Tryz.underlying147, rfl⟩
instance : NI Tryz.prog 147 := ⟨_, Tryz.underlying147, rfl⟩
instance : Pt Tryz.prog 147 75 := ⟨Tryz.underlying147⟩
instance : Cz Tryz.prog 150 2 := ⟨_, info_of Tryz.type150, rfl⟩
instance : Bz Tryz.prog 150 16 := ⟨_, info_of Tryz.type150, rfl⟩
instance : Zv Tryz.prog 150 (Value.agg #[Value.pointer none, Value.pointer none]) := ⟨_, info_of Tryz.type150, rfl⟩
instance : Ag Tryz.prog 150 true := ⟨_, Tryz.underlying150, rfl⟩
instance : NI Tryz.prog 150 := ⟨_, Tryz.underlying150, rfl⟩
instance : Bd Tryz.prog 150 [(0, 1), (1, 1)] := ⟨_, Tryz.underlying150, .cons rfl ⟨_, info_of Tryz.type23, rfl⟩ (.cons rfl ⟨_, info_of Tryz.type30, rfl⟩ .nil)⟩
instance : Fl Tryz.prog 150 0 0 := ⟨_, _, _, Tryz.underlying150, rfl, rfl, ⟨_, info_of Tryz.type23, rfl⟩, by decide⟩
instance : Fl Tryz.prog 150 1 1 := ⟨_, _, _, Tryz.underlying150, rfl, rfl, ⟨_, info_of Tryz.type30, rfl⟩, by decide⟩
instance : Cz Tryz.prog 158 1 := ⟨_, info_of Tryz.type158, rfl⟩
instance : Bz Tryz.prog 158 8 := ⟨_, info_of Tryz.type158, rfl⟩
instance : Zv Tryz.prog 158 (Value.map none) := ⟨_, info_of Tryz.type158, rfl⟩
instance : Ag Tryz.prog 158 false := ⟨_, Tryz.underlying158, rfl⟩
instance : NI Tryz.prog 158 := ⟨_, Tryz.underlying158, rfl⟩
instance : Mp Tryz.prog 158 5 21 := ⟨Tryz.underlying158⟩
instance : Cz Tryz.prog 163 1 := ⟨_, info_of Tryz.type163, rfl⟩
instance : Bz Tryz.prog 163 24 := ⟨_, info_of Tryz.type163, rfl⟩
instance : Zv Tryz.prog 163 (Value.slice none 0 0) := ⟨_, info_of Tryz.type163, rfl⟩
instance : Ag Tryz.prog 163 false := ⟨_, Tryz.underlying163, rfl⟩
instance : NI Tryz.prog 163 := ⟨_, Tryz.underlying163, rfl⟩
instance : El Tryz.prog 163 167 := ⟨Tryz.underlying163⟩
instance : Cz Tryz.prog 167 6 := ⟨_, info_of Tryz.type167, rfl⟩
instance : Bz Tryz.prog 167 80 := ⟨_, info_of Tryz.type167, rfl⟩
instance : Zv Tryz.prog 167 (Value.agg #[Value.int IntKind.i64 0, Value.int IntKind.i64 0, Value.bool false, Value.int IntKind.i64 0, Value.slice none 0 0, Value.slice none 0 0]) := ⟨_, info_of Tryz.type167, rfl⟩
instance : Ag Tryz.prog 167 true := ⟨_, Tryz.underlying167, rfl⟩
instance : NI Tryz.prog 167 := ⟨_, Tryz.underlying167, rfl⟩
instance : Bd Tryz.prog 167 [(0, 1), (1, 1), (2, 1), (3, 1), (4, 1), (5, 1)] := ⟨_, Tryz.underlying167, .cons rfl ⟨_, info_of Tryz.type3, rfl⟩ (.cons rfl ⟨_, info_of Tryz.type3, rfl⟩ (.cons rfl ⟨_, info_of Tryz.type4, rfl⟩ (.cons rfl ⟨_, info_of Tryz.type3, rfl⟩ (.cons rfl ⟨_, info_of Tryz.type36, rfl⟩ (.cons rfl ⟨_, info_of Tryz.type104, rfl⟩ .nil)))))⟩
instance : Fl Tryz.prog 167 0 0 := ⟨_, _, _, Tryz.underlying167, rfl, rfl, ⟨_, info_of Tryz.type3, rfl⟩, by decide⟩
instance : Fl Tryz.prog 167 1 1 := ⟨_, _, _, Tryz.underlying167, rfl, rfl, ⟨_, info_of Tryz.type3, rfl⟩, by decide⟩
instance : Fl Tryz.prog 167 2 2 := ⟨_, _, _, Tryz.underlying167, rfl, rfl, ⟨_, info_of Tryz.type4, rfl⟩, by decide⟩
instance : Fl Tryz.prog 167 3 3 := ⟨_, _, _, Tryz.underlying167, rfl, rfl, ⟨_, info_of Tryz.type3, rfl⟩, by decide⟩
instance : Fl Tryz.prog 167 4 4 := ⟨_, _, _, Tryz.underlying167, rfl, rfl, ⟨_, info_of Tryz.type36, rfl⟩, by decide⟩
instance : Fl Tryz.prog 167 5 5 := ⟨_, _, _, Tryz.underlying167, rfl, rfl, ⟨_, info_of Tryz.type104, rfl⟩, by decide⟩
instance : Cz Tryz.prog 169 1 := ⟨_, info_of Tryz.type169, rfl⟩
instance : Bz Tryz.prog 169 8 := ⟨_, info_of Tryz.type169, rfl⟩
instance : Zv Tryz.prog 169 (Value.map none) := ⟨_, info_of Tryz.type169, rfl⟩
instance : Ag Tryz.prog 169 false := ⟨_, Tryz.underlying169, rfl⟩
instance : NI Tryz.prog 169 := ⟨_, Tryz.underlying169, rfl⟩
instance : Mp Tryz.prog 169 5 3 := ⟨Tryz.underlying169⟩
instance : Cz Tryz.prog 170 1 := ⟨_, info_of Tryz.type170, rfl⟩
instance : Bz Tryz.prog 170 8 := ⟨_, info_of Tryz.type170, rfl⟩
instance : Zv Tryz.prog 170 (Value.map none) := ⟨_, info_of Tryz.type170, rfl⟩
instance : Ag Tryz.prog 170 false := ⟨_, Tryz.underlying170, rfl⟩
instance : NI Tryz.prog 170 := ⟨_, Tryz.underlying170, rfl⟩
instance : Mp Tryz.prog 170 3 267 := ⟨Tryz.underlying170⟩
instance : Cz Tryz.prog 171 1 := ⟨_, info_of Tryz.type171, rfl⟩
instance : Bz Tryz.prog 171 8 := ⟨_, info_of Tryz.type171, rfl⟩
instance : Zv Tryz.prog 171 (Value.map none) := ⟨_, info_of Tryz.type171, rfl⟩
instance : Ag Tryz.prog 171 false := ⟨_, Tryz.underlying171, rfl⟩
instance : NI Tryz.prog 171 := ⟨_, Tryz.underlying171, rfl⟩
instance : Mp Tryz.prog 171 3 279 := ⟨Tryz.underlying171⟩
instance : Cz Tryz.prog 172 1 := ⟨_, info_of Tryz.type172, rfl⟩
instance : Bz Tryz.prog 172 8 := ⟨_, info_of Tryz.type172, rfl⟩
instance : Zv Tryz.prog 172 (Value.map none) := ⟨_, info_of Tryz.type172, rfl⟩
instance : Ag Tryz.prog 172 false := ⟨_, Tryz.underlying172, rfl⟩
instance : NI Tryz.prog 172 := ⟨_, Tryz.underlying172, rfl⟩
instance : Mp Tryz.prog 172 3 295 := ⟨Tryz.underlying172⟩
instance : Cz Tryz.prog 174 1 := ⟨_, info_of Tryz.type174, rfl⟩
instance : Bz Tryz.prog 174 24 := ⟨_, info_of Tryz.type174, rfl⟩
instance : Zv Tryz.prog 174 (Value.slice none 0 0) := ⟨_, info_of Tryz.type174, rfl⟩
instance : Ag Tryz.prog 174 false := ⟨_, Tryz.underlying174, rfl⟩
instance : NI Tryz.prog 174 := ⟨_, Tryz.underlying174, rfl⟩
instance : El Tryz.prog 174 263 := ⟨Tryz.underlying174⟩
instance : Cz Tryz.prog 176 10 := ⟨_, info_of Tryz.type176, rfl⟩
instance : Bz Tryz.prog 176 112 := ⟨_, info_of Tryz.type176, rfl⟩
instance : Zv Tryz.prog 176 (Value.agg #[Value.map none, Value.map none, Value.map none, Value.map none, Value.map none, Value.map none, Value.slice none 0 0, Value.int IntKind.i64 0, Value.int IntKind.i64 0, Value.slice none 0 0]) := ⟨_, info_of Tryz.type176, rfl⟩
instance : Ag Tryz.prog 176 true := ⟨_, Tryz.underlying176, rfl⟩
instance : NI Tryz.prog 176 := ⟨_, Tryz.underlying176, rfl⟩
instance : Bd Tryz.prog 176 [(0, 1), (1, 1), (2, 1), (3, 1), (4, 1), (5, 1), (6, 1), (7, 1), (8, 1), (9, 1)] := ⟨_, Tryz.underlying176, .cons rfl ⟨_, info_of Tryz.type158, rfl⟩ (.cons rfl ⟨_, info_of Tryz.type169, rfl⟩ (.cons rfl ⟨_, info_of Tryz.type170, rfl⟩ (.cons rfl ⟨_, info_of Tryz.type171, rfl⟩ (.cons rfl ⟨_, info_of Tryz.type171, rfl⟩ (.cons rfl ⟨_, info_of Tryz.type172, rfl⟩ (.cons rfl ⟨_, info_of Tryz.type174, rfl⟩ (.cons rfl ⟨_, info_of Tryz.type3, rfl⟩ (.cons rfl ⟨_, info_of Tryz.type3, rfl⟩ (.cons rfl ⟨_, info_of Tryz.type81, rfl⟩ .nil)))))))))⟩
instance : Fl Tryz.prog 176 0 0 := ⟨_, _, _, Tryz.underlying176, rfl, rfl, ⟨_, info_of Tryz.type158, rfl⟩, by decide⟩
instance : Fl Tryz.prog 176 1 1 := ⟨_, _, _, Tryz.underlying176, rfl, rfl, ⟨_, info_of Tryz.type169, rfl⟩, by decide⟩
instance : Fl Tryz.prog 176 2 2 := ⟨_, _, _, Tryz.underlying176, rfl, rfl, ⟨_, info_of Tryz.type170, rfl⟩, by decide⟩
instance : Fl Tryz.prog 176 3 3 := ⟨_, _, _, Tryz.underlying176, rfl, rfl, ⟨_, info_of Tryz.type171, rfl⟩, by decide⟩
instance : Fl Tryz.prog 176 4 4 := ⟨_, _, _, Tryz.underlying176, rfl, rfl, ⟨_, info_of Tryz.type171, rfl⟩, by decide⟩
instance : Fl Tryz.prog 176 5 5 := ⟨_, _, _, Tryz.underlying176, rfl, rfl, ⟨_, info_of Tryz.type172, rfl⟩, by decide⟩
instance : Fl Tryz.prog 176 6 6 := ⟨_, _, _, Tryz.underlying176, rfl, rfl, ⟨_, info_of Tryz.type174, rfl⟩, by decide⟩
instance : Fl Tryz.prog 176 7 7 := ⟨_, _, _, Tryz.underlying176, rfl, rfl, ⟨_, info_of Tryz.type3, rfl⟩, by decide⟩
instance : Fl Tryz.prog 176 8 8 := ⟨_, _, _, Tryz.underlying176, rfl, rfl, ⟨_, info_of Tryz.type3, rfl⟩, by decide⟩
instance : Fl Tryz.prog 176 9 9 := ⟨_, _, _, Tryz.underlying176, rfl, rfl, ⟨_, info_of Tryz.type81, rfl⟩, by decide⟩
instance : Cz Tryz.prog 178 1 := ⟨_, info_of Tryz.type178, rfl⟩
instance : Bz Tryz.prog 178 24 := ⟨_, info_of Tryz.type178, rfl⟩
instance : Zv Tryz.prog 178 (Value.slice none 0 0) := ⟨_, info_of Tryz.type178, rfl⟩
instance : Ag Tryz.prog 178 false := ⟨_, Tryz.underlying178, rfl⟩
instance : NI Tryz.prog 178 := ⟨_, Tryz.underlying178, rfl⟩
instance : El Tryz.prog 178 272 := ⟨Tryz.underlying178⟩
instance : Cz Tryz.prog 180 16 := ⟨_, info_of Tryz.type180, rfl⟩
instance : Bz Tryz.prog 180 192 := ⟨_, info_of Tryz.type180, rfl⟩
instance : Zv Tryz.prog 180 (Value.agg #[Value.int IntKind.i64 0, Value.int IntKind.i64 0, Value.bool false, Value.slice none 0 0, Value.int IntKind.i64 0, Value.map none, Value.map none, Value.map none, Value.map none, Value.map none, Value.map none, Value.slice none 0 0, Value.int IntKind.i64 0, Value.int IntKind.i64 0, Value.slice none 0 0, Value.slice none 0 0]) := ⟨_, info_of Tryz.type180, rfl⟩
instance : Ag Tryz.prog 180 true := ⟨_, Tryz.underlying180, rfl⟩
instance : NI Tryz.prog 180 := ⟨_, Tryz.underlying180, rfl⟩
instance : Bd Tryz.prog 180 [(0, 1), (1, 1), (2, 1), (3, 1), (4, 1), (5, 10), (15, 1)] := ⟨_, Tryz.underlying180, .cons rfl ⟨_, info_of Tryz.type3, rfl⟩ (.cons rfl ⟨_, info_of Tryz.type3, rfl⟩ (.cons rfl ⟨_, info_of Tryz.type4, rfl⟩ (.cons rfl ⟨_, info_of Tryz.type178, rfl⟩ (.cons rfl ⟨_, info_of Tryz.type3, rfl⟩ (.cons rfl ⟨_, info_of Tryz.type176, rfl⟩ (.cons rfl ⟨_, info_of Tryz.type81, rfl⟩ .nil))))))⟩
instance : Fl Tryz.prog 180 0 0 := ⟨_, _, _, Tryz.underlying180, rfl, rfl, ⟨_, info_of Tryz.type3, rfl⟩, by decide⟩
instance : Fl Tryz.prog 180 1 1 := ⟨_, _, _, Tryz.underlying180, rfl, rfl, ⟨_, info_of Tryz.type3, rfl⟩, by decide⟩
instance : Fl Tryz.prog 180 2 2 := ⟨_, _, _, Tryz.underlying180, rfl, rfl, ⟨_, info_of Tryz.type4, rfl⟩, by decide⟩
instance : Fl Tryz.prog 180 3 3 := ⟨_, _, _, Tryz.underlying180, rfl, rfl, ⟨_, info_of Tryz.type178, rfl⟩, by decide⟩
instance : Fl Tryz.prog 180 4 4 := ⟨_, _, _, Tryz.underlying180, rfl, rfl, ⟨_, info_of Tryz.type3, rfl⟩, by decide⟩
instance : Fl Tryz.prog 180 5 5 := ⟨_, _, _, Tryz.underlying180, rfl, rfl, ⟨_, info_of Tryz.type176, rfl⟩, by decide⟩
instance : Fl Tryz.prog 180 6 15 := ⟨_, _, _, Tryz.underlying180, rfl, rfl, ⟨_, info_of Tryz.type81, rfl⟩, by decide⟩
instance : Cz Tryz.prog 181 1 := ⟨_, info_of Tryz.type181, rfl⟩
instance : Bz Tryz.prog 181 8 := ⟨_, info_of Tryz.type181, rfl⟩
instance : Zv Tryz.prog 181 (Value.int IntKind.i64 0) := ⟨_, info_of Tryz.type181, rfl⟩
instance : Ag Tryz.prog 181 false := ⟨_, Tryz.underlying181, rfl⟩
instance : NI Tryz.prog 181 := ⟨_, Tryz.underlying181, rfl⟩
instance : Ik Tryz.prog 181 IntKind.i64 := ⟨Tryz.underlying181⟩
instance : Cz Tryz.prog 187 1 := ⟨_, info_of Tryz.type187, rfl⟩
instance : Bz Tryz.prog 187 8 := ⟨_, info_of Tryz.type187, rfl⟩
instance : Zv Tryz.prog 187 (Value.nilFunc) := ⟨_, info_of Tryz.type187, rfl⟩
instance : Ag Tryz.prog 187 false := ⟨_, Tryz.underlying187, rfl⟩
instance : NI Tryz.prog 187 := ⟨_, Tryz.underlying187, rfl⟩
instance : Cz Tryz.prog 190 7 := ⟨_, info_of Tryz.type190, rfl⟩
instance : Bz Tryz.prog 190 88 := ⟨_, info_of Tryz.type190, rfl⟩
instance : Zv Tryz.prog 190 (Value.agg #[Value.int IntKind.i64 0, Value.int IntKind.i64 0, Value.int IntKind.i64 0, Value.int IntKind.i64 0, Value.bool false, Value.slice none 0 0, Value.slice none 0 0]) := ⟨_, info_of Tryz.type190, rfl⟩
instance : Ag Tryz.prog 190 true := ⟨_, Tryz.underlying190, rfl⟩
instance : NI Tryz.prog 190 := ⟨_, Tryz.underlying190, rfl⟩
instance : Bd Tryz.prog 190 [(0, 1), (1, 1), (2, 1), (3, 1), (4, 1), (5, 1), (6, 1)] := ⟨_, Tryz.underlying190, .cons rfl ⟨_, info_of Tryz.type3, rfl⟩ (.cons rfl ⟨_, info_of Tryz.type3, rfl⟩ (.cons rfl ⟨_, info_of Tryz.type3, rfl⟩ (.cons rfl ⟨_, info_of Tryz.type3, rfl⟩ (.cons rfl ⟨_, info_of Tryz.type4, rfl⟩ (.cons rfl ⟨_, info_of Tryz.type36, rfl⟩ (.cons rfl ⟨_, info_of Tryz.type104, rfl⟩ .nil))))))⟩
instance : Fl Tryz.prog 190 0 0 := ⟨_, _, _, Tryz.underlying190, rfl, rfl, ⟨_, info_of Tryz.type3, rfl⟩, by decide⟩
instance : Fl Tryz.prog 190 1 1 := ⟨_, _, _, Tryz.underlying190, rfl, rfl, ⟨_, info_of Tryz.type3, rfl⟩, by decide⟩
instance : Fl Tryz.prog 190 2 2 := ⟨_, _, _, Tryz.underlying190, rfl, rfl, ⟨_, info_of Tryz.type3, rfl⟩, by decide⟩
instance : Fl Tryz.prog 190 3 3 := ⟨_, _, _, Tryz.underlying190, rfl, rfl, ⟨_, info_of Tryz.type3, rfl⟩, by decide⟩
instance : Fl Tryz.prog 190 4 4 := ⟨_, _, _, Tryz.underlying190, rfl, rfl, ⟨_, info_of Tryz.type4, rfl⟩, by decide⟩
instance : Fl Tryz.prog 190 5 5 := ⟨_, _, _, Tryz.underlying190, rfl, rfl, ⟨_, info_of Tryz.type36, rfl⟩, by decide⟩
instance : Fl Tryz.prog 190 6 6 := ⟨_, _, _, Tryz.underlying190, rfl, rfl, ⟨_, info_of Tryz.type104, rfl⟩, by decide⟩
instance : Cz Tryz.prog 191 1 := ⟨_, info_of Tryz.type191, rfl⟩
instance : Bz Tryz.prog 191 8 := ⟨_, info_of Tryz.type191, rfl⟩
instance : Zv Tryz.prog 191 (Value.int IntKind.u64 0) := ⟨_, info_of Tryz.type191, rfl⟩
instance : Ag Tryz.prog 191 false := ⟨_, Tryz.underlying191, rfl⟩
instance : NI Tryz.prog 191 := ⟨_, Tryz.underlying191, rfl⟩
instance : Ik Tryz.prog 191 IntKind.u64 := ⟨Tryz.underlying191⟩
instance : Cz Tryz.prog 193 3 := ⟨_, info_of Tryz.type193, rfl⟩
instance : Bz Tryz.prog 193 24 := ⟨_, info_of Tryz.type193, rfl⟩
instance : Zv Tryz.prog 193 (Value.agg #[Value.pointer none, Value.pointer none, Value.int IntKind.u64 0]) := ⟨_, info_of Tryz.type193, rfl⟩
instance : Ag Tryz.prog 193 true := ⟨_, Tryz.underlying193, rfl⟩
instance : NI Tryz.prog 193 := ⟨_, Tryz.underlying193, rfl⟩
instance : Bd Tryz.prog 193 [(0, 1), (1, 1), (2, 1)] := ⟨_, Tryz.underlying193, .cons rfl ⟨_, info_of Tryz.type17, rfl⟩ (.cons rfl ⟨_, info_of Tryz.type143, rfl⟩ (.cons rfl ⟨_, info_of Tryz.type191, rfl⟩ .nil))⟩
instance : Fl Tryz.prog 193 0 0 := ⟨_, _, _, Tryz.underlying193, rfl, rfl, ⟨_, info_of Tryz.type17, rfl⟩, by decide⟩
instance : Fl Tryz.prog 193 1 1 := ⟨_, _, _, Tryz.underlying193, rfl, rfl, ⟨_, info_of Tryz.type143, rfl⟩, by decide⟩
instance : Fl Tryz.prog 193 2 2 := ⟨_, _, _, Tryz.underlying193, rfl, rfl, ⟨_, info_of Tryz.type191, rfl⟩, by decide⟩
instance : Cz Tryz.prog 196 1 := ⟨_, info_of Tryz.type196, rfl⟩
instance : Bz Tryz.prog 196 16 := ⟨_, info_of Tryz.type196, rfl⟩
instance : Zv Tryz.prog 196 (Value.nilIface) := ⟨_, info_of Tryz.type196, rfl⟩
instance : Ag Tryz.prog 196 false := ⟨_, Tryz.underlying196, rfl⟩
instance : Cz Tryz.prog 198 1 := ⟨_, info_of Tryz.type198, rfl⟩
instance : Bz Tryz.prog 198 1 := ⟨_, info_of Tryz.type198, rfl⟩
instance : Zv Tryz.prog 198 (Value.int IntKind.u8 0) := ⟨_, info_of Tryz.type198, rfl⟩
instance : Ag Tryz.prog 198 false := ⟨_, Tryz.underlying198, rfl⟩
instance : NI Tryz.prog 198 := ⟨_, Tryz.underlying198, rfl⟩
instance : Ik Tryz.prog 198 IntKind.u8 := ⟨Tryz.underlying198⟩
instance : Cz Tryz.prog 204 1 := ⟨_, info_of Tryz.type204, rfl⟩
instance : Bz Tryz.prog 204 8 := ⟨_, info_of Tryz.type204, rfl⟩
instance : Zv Tryz.prog 204 (Value.pointer none) := ⟨_, info_of Tryz.type204, rfl⟩
instance : Ag Tryz.prog 204 false := ⟨_, Tryz.underlying204, rfl⟩
instance : NI Tryz.prog 204 := ⟨_, Tryz.underlying204, rfl⟩
instance : Pt Tryz.prog 204 77 := ⟨Tryz.underlying204⟩
instance : Cz Tryz.prog 206 1 := ⟨_, info_of Tryz.type206, rfl⟩
instance : Bz Tryz.prog 206 8 := ⟨_, info_of Tryz.type206, rfl⟩
instance : Zv Tryz.prog 206 (Value.pointer none) := ⟨_, info_of Tryz.type206, rfl⟩
instance : Ag Tryz.prog 206 false := ⟨_, Tryz.underlying206, rfl⟩
instance : NI Tryz.prog 206 := ⟨_, Tryz.underlying206, rfl⟩
instance : Pt Tryz.prog 206 21 := ⟨Tryz.underlying206⟩
instance : Cz Tryz.prog 211 1 := ⟨_, info_of Tryz.type211, rfl⟩
instance : Bz Tryz.prog 211 8 := ⟨_, info_of Tryz.type211, rfl⟩
instance : Zv Tryz.prog 211 (Value.pointer none) := ⟨_, info_of Tryz.type211, rfl⟩
instance : Ag Tryz.prog 211 false := ⟨_, Tryz.underlying211, rfl⟩
instance : NI Tryz.prog 211 := ⟨_, Tryz.underlying211, rfl⟩
instance : Pt Tryz.prog 211 86 := ⟨Tryz.underlying211⟩
instance : Cz Tryz.prog 223 1 := ⟨_, info_of Tryz.type223, rfl⟩
instance : Bz Tryz.prog 223 8 := ⟨_, info_of Tryz.type223, rfl⟩
instance : Zv Tryz.prog 223 (Value.nilFunc) := ⟨_, info_of Tryz.type223, rfl⟩
instance : Ag Tryz.prog 223 false := ⟨_, Tryz.underlying223, rfl⟩
instance : NI Tryz.prog 223 := ⟨_, Tryz.underlying223, rfl⟩
instance : Cz Tryz.prog 225 1 := ⟨_, info_of Tryz.type225, rfl⟩
instance : Bz Tryz.prog 225 8 := ⟨_, info_of Tryz.type225, rfl⟩
instance : Zv Tryz.prog 225 (Value.nilFunc) := ⟨_, info_of Tryz.type225, rfl⟩
instance : Ag Tryz.prog 225 false := ⟨_, Tryz.underlying225, rfl⟩
instance : NI Tryz.prog 225 := ⟨_, Tryz.underlying225, rfl⟩
instance : Cz Tryz.prog 235 1 := ⟨_, info_of Tryz.type235, rfl⟩
instance : Bz Tryz.prog 235 16 := ⟨_, info_of Tryz.type235, rfl⟩
instance : Zv Tryz.prog 235 (Value.nilIface) := ⟨_, info_of Tryz.type235, rfl⟩
instance : Ag Tryz.prog 235 false := ⟨_, Tryz.underlying235, rfl⟩
instance : Cz Tryz.prog 238 1 := ⟨_, info_of Tryz.type238, rfl⟩
instance : Bz Tryz.prog 238 16 := ⟨_, info_of Tryz.type238, rfl⟩
instance : Zv Tryz.prog 238 (Value.nilIface) := ⟨_, info_of Tryz.type238, rfl⟩
instance : Ag Tryz.prog 238 false := ⟨_, Tryz.underlying238, rfl⟩
instance : Cz Tryz.prog 239 1 := ⟨_, info_of Tryz.type239, rfl⟩
instance : Bz Tryz.prog 239 16 := ⟨_, info_of Tryz.type239, rfl⟩
instance : Zv Tryz.prog 239 (Value.nilIface) := ⟨_, info_of Tryz.type239, rfl⟩
instance : Ag Tryz.prog 239 false := ⟨_, Tryz.underlying239, rfl⟩
instance : Cz Tryz.prog 240 1 := ⟨_, info_of Tryz.type240, rfl⟩
instance : Bz Tryz.prog 240 16 := ⟨_, info_of Tryz.type240, rfl⟩
instance : Zv Tryz.prog 240 (Value.nilIface) := ⟨_, info_of Tryz.type240, rfl⟩
instance : Ag Tryz.prog 240 false := ⟨_, Tryz.underlying240, rfl⟩
instance : Cz Tryz.prog 247 6 := ⟨_, info_of Tryz.type247, rfl⟩
instance : Bz Tryz.prog 247 80 := ⟨_, info_of Tryz.type247, rfl⟩
instance : Zv Tryz.prog 247 (Value.agg #[Value.int IntKind.i64 0, Value.int IntKind.i64 0, Value.bool false, Value.int IntKind.i64 0, Value.slice none 0 0, Value.slice none 0 0]) := ⟨_, info_of Tryz.type247, rfl⟩
instance : Ag Tryz.prog 247 true := ⟨_, Tryz.underlying247, rfl⟩
instance : NI Tryz.prog 247 := ⟨_, Tryz.underlying247, rfl⟩
instance : Bd Tryz.prog 247 [(0, 1), (1, 1), (2, 1), (3, 1), (4, 1), (5, 1)] := ⟨_, Tryz.underlying247, .cons rfl ⟨_, info_of Tryz.type3, rfl⟩ (.cons rfl ⟨_, info_of Tryz.type3, rfl⟩ (.cons rfl ⟨_, info_of Tryz.type4, rfl⟩ (.cons rfl ⟨_, info_of Tryz.type3, rfl⟩ (.cons rfl ⟨_, info_of Tryz.type27, rfl⟩ (.cons rfl ⟨_, info_of Tryz.type56, rfl⟩ .nil)))))⟩
instance : Fl Tryz.prog 247 0 0 := ⟨_, _, _, Tryz.underlying247, rfl, rfl, ⟨_, info_of Tryz.type3, rfl⟩, by decide⟩
instance : Fl Tryz.prog 247 1 1 := ⟨_, _, _, Tryz.underlying247, rfl, rfl, ⟨_, info_of Tryz.type3, rfl⟩, by decide⟩
instance : Fl Tryz.prog 247 2 2 := ⟨_, _, _, Tryz.underlying247, rfl, rfl, ⟨_, info_of Tryz.type4, rfl⟩, by decide⟩
instance : Fl Tryz.prog 247 3 3 := ⟨_, _, _, Tryz.underlying247, rfl, rfl, ⟨_, info_of Tryz.type3, rfl⟩, by decide⟩
instance : Fl Tryz.prog 247 4 4 := ⟨_, _, _, Tryz.underlying247, rfl, rfl, ⟨_, info_of Tryz.type27, rfl⟩, by decide⟩
instance : Fl Tryz.prog 247 5 5 := ⟨_, _, _, Tryz.underlying247, rfl, rfl, ⟨_, info_of Tryz.type56, rfl⟩, by decide⟩
instance : Cz Tryz.prog 251 3 := ⟨_, info_of Tryz.type251, rfl⟩
instance : Bz Tryz.prog 251 24 := ⟨_, info_of Tryz.type251, rfl⟩
instance : Zv Tryz.prog 251 (Value.agg #[Value.int IntKind.i64 0, Value.bool false, Value.int IntKind.i64 0]) := ⟨_, info_of Tryz.type251, rfl⟩
instance : Ag Tryz.prog 251 true := ⟨_, Tryz.underlying251, rfl⟩
instance : NI Tryz.prog 251 := ⟨_, Tryz.underlying251, rfl⟩
instance : Bd Tryz.prog 251 [(0, 1), (1, 1), (2, 1)] := ⟨_, Tryz.underlying251, .cons rfl ⟨_, info_of Tryz.type3, rfl⟩ (.cons rfl ⟨_, info_of Tryz.type4, rfl⟩ (.cons rfl ⟨_, info_of Tryz.type3, rfl⟩ .nil))⟩
instance : Fl Tryz.prog 251 0 0 := ⟨_, _, _, Tryz.underlying251, rfl, rfl, ⟨_, info_of Tryz.type3, rfl⟩, by decide⟩
instance : Fl Tryz.prog 251 1 1 := ⟨_, _, _, Tryz.underlying251, rfl, rfl, ⟨_, info_of Tryz.type4, rfl⟩, by decide⟩
instance : Fl Tryz.prog 251 2 2 := ⟨_, _, _, Tryz.underlying251, rfl, rfl, ⟨_, info_of Tryz.type3, rfl⟩, by decide⟩
instance : Cz Tryz.prog 258 2 := ⟨_, info_of Tryz.type258, rfl⟩
instance : Bz Tryz.prog 258 16 := ⟨_, info_of Tryz.type258, rfl⟩
instance : Zv Tryz.prog 258 (Value.agg #[Value.int IntKind.i64 0, Value.int IntKind.i64 0]) := ⟨_, info_of Tryz.type258, rfl⟩
instance : Ag Tryz.prog 258 true := ⟨_, Tryz.underlying258, rfl⟩
instance : NI Tryz.prog 258 := ⟨_, Tryz.underlying258, rfl⟩
instance : Bd Tryz.prog 258 [(0, 1), (1, 1)] := ⟨_, Tryz.underlying258, .cons rfl ⟨_, info_of Tryz.type3, rfl⟩ (.cons rfl ⟨_, info_of Tryz.type3, rfl⟩ .nil)⟩
instance : Fl Tryz.prog 258 0 0 := ⟨_, _, _, Tryz.underlying258, rfl, rfl, ⟨_, info_of Tryz.type3, rfl⟩, by decide⟩
instance : Fl Tryz.prog 258 1 1 := ⟨_, _, _, Tryz.underlying258, rfl, rfl, ⟨_, info_of Tryz.type3, rfl⟩, by decide⟩
instance : Cz Tryz.prog 261 7 := ⟨_, info_of Tryz.type261, rfl⟩
instance : Bz Tryz.prog 261 56 := ⟨_, info_of Tryz.type261, rfl⟩
instance : Zv Tryz.prog 261 (Value.agg #[Value.nilFunc, Value.nilFunc, Value.nilFunc, Value.nilFunc, Value.nilFunc, Value.nilFunc, Value.nilFunc]) := ⟨_, info_of Tryz.type261, rfl⟩
instance : Ag Tryz.prog 261 true := ⟨_, Tryz.underlying261, rfl⟩
instance : NI Tryz.prog 261 := ⟨_, Tryz.underlying261, rfl⟩
instance : Cz Tryz.prog 263 4 := ⟨_, info_of Tryz.type263, rfl⟩
instance : Bz Tryz.prog 263 32 := ⟨_, info_of Tryz.type263, rfl⟩
instance : Zv Tryz.prog 263 (Value.agg #[Value.int IntKind.i64 0, Value.int IntKind.i64 0, Value.int IntKind.i64 0, Value.bool false]) := ⟨_, info_of Tryz.type263, rfl⟩
instance : Ag Tryz.prog 263 true := ⟨_, Tryz.underlying263, rfl⟩
instance : NI Tryz.prog 263 := ⟨_, Tryz.underlying263, rfl⟩
instance : Bd Tryz.prog 263 [(0, 1), (1, 1), (2, 1), (3, 1)] := ⟨_, Tryz.underlying263, .cons rfl ⟨_, info_of Tryz.type3, rfl⟩ (.cons rfl ⟨_, info_of Tryz.type3, rfl⟩ (.cons rfl ⟨_, info_of Tryz.type3, rfl⟩ (.cons rfl ⟨_, info_of Tryz.type4, rfl⟩ .nil)))⟩
instance : Fl Tryz.prog 263 0 0 := ⟨_, _, _, Tryz.underlying263, rfl, rfl, ⟨_, info_of Tryz.type3, rfl⟩, by decide⟩
instance : Fl Tryz.prog 263 1 1 := ⟨_, _, _, Tryz.underlying263, rfl, rfl, ⟨_, info_of Tryz.type3, rfl⟩, by decide⟩
instance : Fl Tryz.prog 263 2 2 := ⟨_, _, _, Tryz.underlying263, rfl, rfl, ⟨_, info_of Tryz.type3, rfl⟩, by decide⟩
instance : Fl Tryz.prog 263 3 3 := ⟨_, _, _, Tryz.underlying263, rfl, rfl, ⟨_, info_of Tryz.type4, rfl⟩, by decide⟩
instance : Cz Tryz.prog 265 1 := ⟨_, info_of Tryz.type265, rfl⟩
instance : Bz Tryz.prog 265 8 := ⟨_, info_of Tryz.type265, rfl⟩
instance : Zv Tryz.prog 265 (Value.pointer none) := ⟨_, info_of Tryz.type265, rfl⟩
instance : Ag Tryz.prog 265 false := ⟨_, Tryz.underlying265, rfl⟩
instance : NI Tryz.prog 265 := ⟨_, Tryz.underlying265, rfl⟩
instance : Pt Tryz.prog 265 174 := ⟨Tryz.underlying265⟩
instance : Cz Tryz.prog 267 3 := ⟨_, info_of Tryz.type267, rfl⟩
instance : Bz Tryz.prog 267 40 := ⟨_, info_of Tryz.type267, rfl⟩
instance : Zv Tryz.prog 267 (Value.agg #[Value.int IntKind.i64 0, Value.int IntKind.i64 0, Value.slice none 0 0]) := ⟨_, info_of Tryz.type267, rfl⟩
instance : Ag Tryz.prog 267 true := ⟨_, Tryz.underlying267, rfl⟩
instance : NI Tryz.prog 267 := ⟨_, Tryz.underlying267, rfl⟩
instance : Bd Tryz.prog 267 [(0, 1), (1, 1), (2, 1)] := ⟨_, Tryz.underlying267, .cons rfl ⟨_, info_of Tryz.type3, rfl⟩ (.cons rfl ⟨_, info_of Tryz.type3, rfl⟩ (.cons rfl ⟨_, info_of Tryz.type36, rfl⟩ .nil))⟩
instance : Fl Tryz.prog 267 0 0 := ⟨_, _, _, Tryz.underlying267, rfl, rfl, ⟨_, info_of Tryz.type3, rfl⟩, by decide⟩
instance : Fl Tryz.prog 267 1 1 := ⟨_, _, _, Tryz.underlying267, rfl, rfl, ⟨_, info_of Tryz.type3, rfl⟩, by decide⟩
instance : Fl Tryz.prog 267 2 2 := ⟨_, _, _, Tryz.underlying267, rfl, rfl, ⟨_, info_of Tryz.type36, rfl⟩, by decide⟩
instance : Cz Tryz.prog 272 1 := ⟨_, info_of Tryz.type272, rfl⟩
instance : Bz Tryz.prog 272 16 := ⟨_, info_of Tryz.type272, rfl⟩
instance : Zv Tryz.prog 272 (Value.nilIface) := ⟨_, info_of Tryz.type272, rfl⟩
instance : Ag Tryz.prog 272 false := ⟨_, Tryz.underlying272, rfl⟩
instance : Cz Tryz.prog 274 3 := ⟨_, info_of Tryz.type274, rfl⟩
instance : Bz Tryz.prog 274 40 := ⟨_, info_of Tryz.type274, rfl⟩
instance : Zv Tryz.prog 274 (Value.agg #[Value.int IntKind.i64 0, Value.int IntKind.i64 0, Value.slice none 0 0]) := ⟨_, info_of Tryz.type274, rfl⟩
instance : Ag Tryz.prog 274 true := ⟨_, Tryz.underlying274, rfl⟩
instance : NI Tryz.prog 274 := ⟨_, Tryz.underlying274, rfl⟩
instance : Bd Tryz.prog 274 [(0, 1), (1, 1), (2, 1)] := ⟨_, Tryz.underlying274, .cons rfl ⟨_, info_of Tryz.type3, rfl⟩ (.cons rfl ⟨_, info_of Tryz.type3, rfl⟩ (.cons rfl ⟨_, info_of Tryz.type36, rfl⟩ .nil))⟩
instance : Fl Tryz.prog 274 0 0 := ⟨_, _, _, Tryz.underlying274, rfl, rfl, ⟨_, info_of Tryz.type3, rfl⟩, by decide⟩
instance : Fl Tryz.prog 274 1 1 := ⟨_, _, _, Tryz.underlying274, rfl, rfl, ⟨_, info_of Tryz.type3, rfl⟩, by decide⟩
instance : Fl Tryz.prog 274 2 2 := ⟨_, _, _, Tryz.underlying274, rfl, rfl, ⟨_, info_of Tryz.type36, rfl⟩, by decide⟩
instance : Cz Tryz.prog 277 3 := ⟨_, info_of Tryz.type277, rfl⟩
instance : Bz Tryz.prog 277 40 := ⟨_, info_of Tryz.type277, rfl⟩
instance : Zv Tryz.prog 277 (Value.agg #[Value.int IntKind.i64 0, Value.bool false, Value.slice none 0 0]) := ⟨_, info_of Tryz.type277, rfl⟩
instance : Ag Tryz.prog 277 true := ⟨_, Tryz.underlying277, rfl⟩
instance : NI Tryz.prog 277 := ⟨_, Tryz.underlying277, rfl⟩
instance : Bd Tryz.prog 277 [(0, 1), (1, 1), (2, 1)] := ⟨_, Tryz.underlying277, .cons rfl ⟨_, info_of Tryz.type3, rfl⟩ (.cons rfl ⟨_, info_of Tryz.type4, rfl⟩ (.cons rfl ⟨_, info_of Tryz.type104, rfl⟩ .nil))⟩
instance : Fl Tryz.prog 277 0 0 := ⟨_, _, _, Tryz.underlying277, rfl, rfl, ⟨_, info_of Tryz.type3, rfl⟩, by decide⟩
instance : Fl Tryz.prog 277 1 1 := ⟨_, _, _, Tryz.underlying277, rfl, rfl, ⟨_, info_of Tryz.type4, rfl⟩, by decide⟩
instance : Fl Tryz.prog 277 2 2 := ⟨_, _, _, Tryz.underlying277, rfl, rfl, ⟨_, info_of Tryz.type104, rfl⟩, by decide⟩
instance : Cz Tryz.prog 279 2 := ⟨_, info_of Tryz.type279, rfl⟩
instance : Bz Tryz.prog 279 16 := ⟨_, info_of Tryz.type279, rfl⟩
instance : Zv Tryz.prog 279 (Value.agg #[Value.int IntKind.i64 0, Value.bool false]) := ⟨_, info_of Tryz.type279, rfl⟩
instance : Ag Tryz.prog 279 true := ⟨_, Tryz.underlying279, rfl⟩
instance : NI Tryz.prog 279 := ⟨_, Tryz.underlying279, rfl⟩
instance : Bd Tryz.prog 279 [(0, 1), (1, 1)] := ⟨_, Tryz.underlying279, .cons rfl ⟨_, info_of Tryz.type3, rfl⟩ (.cons rfl ⟨_, info_of Tryz.type4, rfl⟩ .nil)⟩
instance : Fl Tryz.prog 279 0 0 := ⟨_, _, _, Tryz.underlying279, rfl, rfl, ⟨_, info_of Tryz.type3, rfl⟩, by decide⟩
instance : Fl Tryz.prog 279 1 1 := ⟨_, _, _, Tryz.underlying279, rfl, rfl, ⟨_, info_of Tryz.type4, rfl⟩, by decide⟩
instance : Cz Tryz.prog 281 2 := ⟨_, info_of Tryz.type281, rfl⟩
instance : Bz Tryz.prog 281 16 := ⟨_, info_of Tryz.type281, rfl⟩
instance : Zv Tryz.prog 281 (Value.agg #[Value.int IntKind.i64 0, Value.bool false]) := ⟨_, info_of Tryz.type281, rfl⟩
instance : Ag Tryz.prog 281 true := ⟨_, Tryz.underlying281, rfl⟩
instance : NI Tryz.prog 281 := ⟨_, Tryz.underlying281, rfl⟩
instance : Bd Tryz.prog 281 [(0, 1), (1, 1)] := ⟨_, Tryz.underlying281, .cons rfl ⟨_, info_of Tryz.type3, rfl⟩ (.cons rfl ⟨_, info_of Tryz.type4, rfl⟩ .nil)⟩
instance : Fl Tryz.prog 281 0 0 := ⟨_, _, _, Tryz.underlying281, rfl, rfl, ⟨_, info_of Tryz.type3, rfl⟩, by decide⟩
instance : Fl Tryz.prog 281 1 1 := ⟨_, _, _, Tryz.underlying281, rfl, rfl, ⟨_, info_of Tryz.type4, rfl⟩, by decide⟩
instance : Cz Tryz.prog 285 1 := ⟨_, info_of Tryz.type285, rfl⟩
instance : Bz Tryz.prog 285 24 := ⟨_, info_of Tryz.type285, rfl⟩
instance : Zv Tryz.prog 285 (Value.slice none 0 0) := ⟨_, info_of Tryz.type285, rfl⟩
instance : Ag Tryz.prog 285 false := ⟨_, Tryz.underlying285, rfl⟩
instance : NI Tryz.prog 285 := ⟨_, Tryz.underlying285, rfl⟩
instance : El Tryz.prog 285 290 := ⟨Tryz.underlying285⟩
instance : Cz Tryz.prog 287 6 := ⟨_, info_of Tryz.type287, rfl⟩
instance : Bz Tryz.prog 287 88 := ⟨_, info_of Tryz.type287, rfl⟩
instance : Zv Tryz.prog 287 (Value.agg #[Value.int IntKind.i64 0, Value.slice none 0 0, Value.slice none 0 0, Value.bool false, Value.bool false, Value.slice none 0 0]) := ⟨_, info_of Tryz.type287, rfl⟩
instance : Ag Tryz.prog 287 true := ⟨_, Tryz.underlying287, rfl⟩
instance : NI Tryz.prog 287 := ⟨_, Tryz.underlying287, rfl⟩
instance : Bd Tryz.prog 287 [(0, 1), (1, 1), (2, 1), (3, 1), (4, 1), (5, 1)] := ⟨_, Tryz.underlying287, .cons rfl ⟨_, info_of Tryz.type3, rfl⟩ (.cons rfl ⟨_, info_of Tryz.type27, rfl⟩ (.cons rfl ⟨_, info_of Tryz.type285, rfl⟩ (.cons rfl ⟨_, info_of Tryz.type4, rfl⟩ (.cons rfl ⟨_, info_of Tryz.type4, rfl⟩ (.cons rfl ⟨_, info_of Tryz.type56, rfl⟩ .nil)))))⟩
instance : Fl Tryz.prog 287 0 0 := ⟨_, _, _, Tryz.underlying287, rfl, rfl, ⟨_, info_of Tryz.type3, rfl⟩, by decide⟩
instance : Fl Tryz.prog 287 1 1 := ⟨_, _, _, Tryz.underlying287, rfl, rfl, ⟨_, info_of Tryz.type27, rfl⟩, by decide⟩
instance : Fl Tryz.prog 287 2 2 := ⟨_, _, _, Tryz.underlying287, rfl, rfl, ⟨_, info_of Tryz.type285, rfl⟩, by decide⟩
instance : Fl Tryz.prog 287 3 3 := ⟨_, _, _, Tryz.underlying287, rfl, rfl, ⟨_, info_of Tryz.type4, rfl⟩, by decide⟩
instance : Fl Tryz.prog 287 4 4 := ⟨_, _, _, Tryz.underlying287, rfl, rfl, ⟨_, info_of Tryz.type4, rfl⟩, by decide⟩
instance : Fl Tryz.prog 287 5 5 := ⟨_, _, _, Tryz.underlying287, rfl, rfl, ⟨_, info_of Tryz.type56, rfl⟩, by decide⟩
instance : Cz Tryz.prog 290 2 := ⟨_, info_of Tryz.type290, rfl⟩
instance : Bz Tryz.prog 290 32 := ⟨_, info_of Tryz.type290, rfl⟩
instance : Zv Tryz.prog 290 (Value.agg #[Value.int IntKind.i64 0, Value.slice none 0 0]) := ⟨_, info_of Tryz.type290, rfl⟩
instance : Ag Tryz.prog 290 true := ⟨_, Tryz.underlying290, rfl⟩
instance : NI Tryz.prog 290 := ⟨_, Tryz.underlying290, rfl⟩
instance : Bd Tryz.prog 290 [(0, 1), (1, 1)] := ⟨_, Tryz.underlying290, .cons rfl ⟨_, info_of Tryz.type3, rfl⟩ (.cons rfl ⟨_, info_of Tryz.type56, rfl⟩ .nil)⟩
instance : Fl Tryz.prog 290 0 0 := ⟨_, _, _, Tryz.underlying290, rfl, rfl, ⟨_, info_of Tryz.type3, rfl⟩, by decide⟩
instance : Fl Tryz.prog 290 1 1 := ⟨_, _, _, Tryz.underlying290, rfl, rfl, ⟨_, info_of Tryz.type56, rfl⟩, by decide⟩
instance : Cz Tryz.prog 295 1 := ⟨_, info_of Tryz.type295, rfl⟩
instance : Bz Tryz.prog 295 8 := ⟨_, info_of Tryz.type295, rfl⟩
instance : Zv Tryz.prog 295 (Value.pointer none) := ⟨_, info_of Tryz.type295, rfl⟩
instance : Ag Tryz.prog 295 false := ⟨_, Tryz.underlying295, rfl⟩
instance : NI Tryz.prog 295 := ⟨_, Tryz.underlying295, rfl⟩
instance : Pt Tryz.prog 295 299 := ⟨Tryz.underlying295⟩
instance : Cz Tryz.prog 296 1 := ⟨_, info_of Tryz.type296, rfl⟩
instance : Bz Tryz.prog 296 8 := ⟨_, info_of Tryz.type296, rfl⟩
instance : Zv Tryz.prog 296 (Value.map none) := ⟨_, info_of Tryz.type296, rfl⟩
instance : Ag Tryz.prog 296 false := ⟨_, Tryz.underlying296, rfl⟩
instance : NI Tryz.prog 296 := ⟨_, Tryz.underlying296, rfl⟩
instance : Mp Tryz.prog 296 3 104 := ⟨Tryz.underlying296⟩
instance : Cz Tryz.prog 297 1 := ⟨_, info_of Tryz.type297, rfl⟩
instance : Bz Tryz.prog 297 8 := ⟨_, info_of Tryz.type297, rfl⟩
instance : Zv Tryz.prog 297 (Value.map none) := ⟨_, info_of Tryz.type297, rfl⟩
instance : Ag Tryz.prog 297 false := ⟨_, Tryz.underlying297, rfl⟩
instance : NI Tryz.prog 297 := ⟨_, Tryz.underlying297, rfl⟩
instance : Mp Tryz.prog 297 3 3 := ⟨Tryz.underlying297⟩
instance : Cz Tryz.prog 299 5 := ⟨_, info_of Tryz.type299, rfl⟩
instance : Bz Tryz.prog 299 48 := ⟨_, info_of Tryz.type299, rfl⟩
instance : Zv Tryz.prog 299 (Value.agg #[Value.slice none 0 0, Value.map none, Value.map none, Value.bool false, Value.bool false]) := ⟨_, info_of Tryz.type299, rfl⟩
instance : Ag Tryz.prog 299 true := ⟨_, Tryz.underlying299, rfl⟩
instance : NI Tryz.prog 299 := ⟨_, Tryz.underlying299, rfl⟩
instance : Bd Tryz.prog 299 [(0, 1), (1, 1), (2, 1), (3, 1), (4, 1)] := ⟨_, Tryz.underlying299, .cons rfl ⟨_, info_of Tryz.type36, rfl⟩ (.cons rfl ⟨_, info_of Tryz.type296, rfl⟩ (.cons rfl ⟨_, info_of Tryz.type297, rfl⟩ (.cons rfl ⟨_, info_of Tryz.type4, rfl⟩ (.cons rfl ⟨_, info_of Tryz.type4, rfl⟩ .nil))))⟩
instance : Fl Tryz.prog 299 0 0 := ⟨_, _, _, Tryz.underlying299, rfl, rfl, ⟨_, info_of Tryz.type36, rfl⟩, by decide⟩
instance : Fl Tryz.prog 299 1 1 := ⟨_, _, _, Tryz.underlying299, rfl, rfl, ⟨_, info_of Tryz.type296, rfl⟩, by decide⟩
instance : Fl Tryz.prog 299 2 2 := ⟨_, _, _, Tryz.underlying299, rfl, rfl, ⟨_, info_of Tryz.type297, rfl⟩, by decide⟩
instance : Fl Tryz.prog 299 3 3 := ⟨_, _, _, Tryz.underlying299, rfl, rfl, ⟨_, info_of Tryz.type4, rfl⟩, by decide⟩
instance : Fl Tryz.prog 299 4 4 := ⟨_, _, _, Tryz.underlying299, rfl, rfl, ⟨_, info_of Tryz.type4, rfl⟩, by decide⟩
instance : Cz Tryz.prog 301 1 := ⟨_, info_of Tryz.type301, rfl⟩
instance : Bz Tryz.prog 301 8 := ⟨_, info_of Tryz.type301, rfl⟩
instance : Zv Tryz.prog 301 (Value.nilFunc) := ⟨_, info_of Tryz.type301, rfl⟩
instance : Ag Tryz.prog 301 false := ⟨_, Tryz.underlying301, rfl⟩
instance : NI Tryz.prog 301 := ⟨_, Tryz.underlying301, rfl⟩
instance : Cz Tryz.prog 304 1 := ⟨_, info_of Tryz.type304, rfl⟩
instance : Bz Tryz.prog 304 8 := ⟨_, info_of Tryz.type304, rfl⟩
instance : Zv Tryz.prog 304 (Value.map none) := ⟨_, info_of Tryz.type304, rfl⟩
instance : Ag Tryz.prog 304 false := ⟨_, Tryz.underlying304, rfl⟩
instance : NI Tryz.prog 304 := ⟨_, Tryz.underlying304, rfl⟩
instance : Mp Tryz.prog 304 3 36 := ⟨Tryz.underlying304⟩
instance : Cz Tryz.prog 308 1 := ⟨_, info_of Tryz.type308, rfl⟩
instance : Bz Tryz.prog 308 16 := ⟨_, info_of Tryz.type308, rfl⟩
instance : Zv Tryz.prog 308 (Value.nilIface) := ⟨_, info_of Tryz.type308, rfl⟩
instance : Ag Tryz.prog 308 false := ⟨_, Tryz.underlying308, rfl⟩
instance : Cz Tryz.prog 324 1 := ⟨_, info_of Tryz.type324, rfl⟩
instance : Bz Tryz.prog 324 8 := ⟨_, info_of Tryz.type324, rfl⟩
instance : Zv Tryz.prog 324 (Value.int IntKind.i64 0) := ⟨_, info_of Tryz.type324, rfl⟩
instance : Ag Tryz.prog 324 false := ⟨_, Tryz.underlying324, rfl⟩
instance : NI Tryz.prog 324 := ⟨_, Tryz.underlying324, rfl⟩
instance : Ik Tryz.prog 324 IntKind.i64 := ⟨Tryz.underlying324⟩
instance : Cz Tryz.prog 332 1 := ⟨_, info_of Tryz.type332, rfl⟩
instance : Bz Tryz.prog 332 8 := ⟨_, info_of Tryz.type332, rfl⟩
instance : Zv Tryz.prog 332 (Value.int IntKind.u64 0) := ⟨_, info_of Tryz.type332, rfl⟩
instance : Ag Tryz.prog 332 false := ⟨_, Tryz.underlying332, rfl⟩
instance : NI Tryz.prog 332 := ⟨_, Tryz.underlying332, rfl⟩
instance : Ik Tryz.prog 332 IntKind.u64 := ⟨Tryz.underlying332⟩
instance : Cz Tryz.prog 335 1 := ⟨_, info_of Tryz.type335, rfl⟩
instance : Bz Tryz.prog 335 8 := ⟨_, info_of Tryz.type335, rfl⟩
instance : Zv Tryz.prog 335 (Value.pointer none) := ⟨_, info_of Tryz.type335, rfl⟩
instance : Ag Tryz.prog 335 false := ⟨_, Tryz.underlying335, rfl⟩
instance : NI Tryz.prog 335 := ⟨_, Tryz.underlying335, rfl⟩
instance : Pt Tryz.prog 335 3 := ⟨Tryz.underlying335⟩
instance : Cz Tryz.prog 339 1 := ⟨_, info_of Tryz.type339, rfl⟩
instance : Bz Tryz.prog 339 8 := ⟨_, info_of Tryz.type339, rfl⟩
instance : Zv Tryz.prog 339 (Value.pointer none) := ⟨_, info_of Tryz.type339, rfl⟩
instance : Ag Tryz.prog 339 false := ⟨_, Tryz.underlying339, rfl⟩
instance : NI Tryz.prog 339 := ⟨_, Tryz.underlying339, rfl⟩
instance : Pt Tryz.prog 339 359 := ⟨Tryz.underlying339⟩
instance : Cz Tryz.prog 359 1 := ⟨_, info_of Tryz.type359, rfl⟩
instance : Bz Tryz.prog 359 16 := ⟨_, info_of Tryz.type359, rfl⟩
instance : Zv Tryz.prog 359 (Value.agg #[Value.string (ByteArray.mk #[])]) := ⟨_, info_of Tryz.type359, rfl⟩
instance : Ag Tryz.prog 359 true := ⟨_, Tryz.underlying359, rfl⟩
instance : NI Tryz.prog 359 := ⟨_, Tryz.underlying359, rfl⟩
instance : Bd Tryz.prog 359 [(0, 1)] := ⟨_, Tryz.underlying359, .cons rfl ⟨_, info_of Tryz.type9, rfl⟩ .nil⟩
instance : Fl Tryz.prog 359 0 0 := ⟨_, _, _, Tryz.underlying359, rfl, rfl, ⟨_, info_of Tryz.type9, rfl⟩, by decide⟩
instance : Cz Tryz.prog 370 1 := ⟨_, info_of Tryz.type370, rfl⟩
instance : Bz Tryz.prog 370 8 := ⟨_, info_of Tryz.type370, rfl⟩
instance : Zv Tryz.prog 370 (Value.pointer none) := ⟨_, info_of Tryz.type370, rfl⟩
instance : Ag Tryz.prog 370 false := ⟨_, Tryz.underlying370, rfl⟩
instance : NI Tryz.prog 370 := ⟨_, Tryz.underlying370, rfl⟩
instance : Pt Tryz.prog 370 46 := ⟨Tryz.underlying370⟩
instance : Body Tryz.prog 2 Tryz.f2 ((Tryz.f2.body).getD .skip) 1 := ⟨Tryz.func2, rfl, rfl, rfl⟩
instance : Body Tryz.prog 3 Tryz.f3 ((Tryz.f3.body).getD .skip) 79 := ⟨Tryz.func3, rfl, rfl, rfl⟩
instance : Body Tryz.prog 4 Tryz.f4 ((Tryz.f4.body).getD .skip) 38 := ⟨Tryz.func4, rfl, rfl, rfl⟩
instance : Body Tryz.prog 5 Tryz.f5 ((Tryz.f5.body).getD .skip) 10 := ⟨Tryz.func5, rfl, rfl, rfl⟩
instance : Body Tryz.prog 6 Tryz.f6 ((Tryz.f6.body).getD .skip) 6 := ⟨Tryz.func6, rfl, rfl, rfl⟩
instance : Body Tryz.prog 7 Tryz.f7 ((Tryz.f7.body).getD .skip) 7 := ⟨Tryz.func7, rfl, rfl, rfl⟩
instance : Body Tryz.prog 8 Tryz.f8 ((Tryz.f8.body).getD .skip) 5 := ⟨Tryz.func8, rfl, rfl, rfl⟩
instance : Body Tryz.prog 9 Tryz.f9 ((Tryz.f9.body).getD .skip) 5 := ⟨Tryz.func9, rfl, rfl, rfl⟩
instance : Body Tryz.prog 10 Tryz.f10 ((Tryz.f10.body).getD .skip) 5 := ⟨Tryz.func10, rfl, rfl, rfl⟩
instance : Body Tryz.prog 11 Tryz.f11 ((Tryz.f11.body).getD .skip) 5 := ⟨Tryz.func11, rfl, rfl, rfl⟩
instance : Body Tryz.prog 12 Tryz.f12 ((Tryz.f12.body).getD .skip) 5 := ⟨Tryz.func12, rfl, rfl, rfl⟩
instance : Body Tryz.prog 13 Tryz.f13 ((Tryz.f13.body).getD .skip) 5 := ⟨Tryz.func13, rfl, rfl, rfl⟩
instance : Body Tryz.prog 14 Tryz.f14 ((Tryz.f14.body).getD .skip) 21 := ⟨Tryz.func14, rfl, rfl, rfl⟩
instance : Body Tryz.prog 15 Tryz.f15 ((Tryz.f15.body).getD .skip) 13 := ⟨Tryz.func15, rfl, rfl, rfl⟩
instance : Body Tryz.prog 16 Tryz.f16 ((Tryz.f16.body).getD .skip) 37 := ⟨Tryz.func16, rfl, rfl, rfl⟩
instance : Body Tryz.prog 17 Tryz.f17 ((Tryz.f17.body).getD .skip) 35 := ⟨Tryz.func17, rfl, rfl, rfl⟩
instance : Body Tryz.prog 18 Tryz.f18 ((Tryz.f18.body).getD .skip) 31 := ⟨Tryz.func18, rfl, rfl, rfl⟩
instance : Body Tryz.prog 19 Tryz.f19 ((Tryz.f19.body).getD .skip) 33 := ⟨Tryz.func19, rfl, rfl, rfl⟩
instance : Body Tryz.prog 20 Tryz.f20 ((Tryz.f20.body).getD .skip) 58 := ⟨Tryz.func20, rfl, rfl, rfl⟩
instance : Body Tryz.prog 21 Tryz.f21 ((Tryz.f21.body).getD .skip) 25 := ⟨Tryz.func21, rfl, rfl, rfl⟩
instance : Body Tryz.prog 22 Tryz.f22 ((Tryz.f22.body).getD .skip) 44 := ⟨Tryz.func22, rfl, rfl, rfl⟩
instance : Body Tryz.prog 23 Tryz.f23 ((Tryz.f23.body).getD .skip) 31 := ⟨Tryz.func23, rfl, rfl, rfl⟩
instance : Body Tryz.prog 24 Tryz.f24 ((Tryz.f24.body).getD .skip) 124 := ⟨Tryz.func24, rfl, rfl, rfl⟩
instance : Body Tryz.prog 25 Tryz.f25 ((Tryz.f25.body).getD .skip) 212 := ⟨Tryz.func25, rfl, rfl, rfl⟩
instance : Body Tryz.prog 26 Tryz.f26 ((Tryz.f26.body).getD .skip) 45 := ⟨Tryz.func26, rfl, rfl, rfl⟩
instance : Body Tryz.prog 27 Tryz.f27 ((Tryz.f27.body).getD .skip) 45 := ⟨Tryz.func27, rfl, rfl, rfl⟩
instance : Body Tryz.prog 28 Tryz.f28 ((Tryz.f28.body).getD .skip) 21 := ⟨Tryz.func28, rfl, rfl, rfl⟩
instance : Body Tryz.prog 29 Tryz.f29 ((Tryz.f29.body).getD .skip) 13 := ⟨Tryz.func29, rfl, rfl, rfl⟩
instance : Body Tryz.prog 30 Tryz.f30 ((Tryz.f30.body).getD .skip) 60 := ⟨Tryz.func30, rfl, rfl, rfl⟩
instance : Body Tryz.prog 31 Tryz.f31 ((Tryz.f31.body).getD .skip) 65 := ⟨Tryz.func31, rfl, rfl, rfl⟩
instance : Body Tryz.prog 32 Tryz.f32 ((Tryz.f32.body).getD .skip) 35 := ⟨Tryz.func32, rfl, rfl, rfl⟩
instance : Body Tryz.prog 33 Tryz.f33 ((Tryz.f33.body).getD .skip) 6 := ⟨Tryz.func33, rfl, rfl, rfl⟩
instance : Body Tryz.prog 34 Tryz.f34 ((Tryz.f34.body).getD .skip) 6 := ⟨Tryz.func34, rfl, rfl, rfl⟩
instance : Body Tryz.prog 35 Tryz.f35 ((Tryz.f35.body).getD .skip) 84 := ⟨Tryz.func35, rfl, rfl, rfl⟩
instance : Body Tryz.prog 36 Tryz.f36 ((Tryz.f36.body).getD .skip) 148 := ⟨Tryz.func36, rfl, rfl, rfl⟩
instance : Body Tryz.prog 37 Tryz.f37 ((Tryz.f37.body).getD .skip) 21 := ⟨Tryz.func37, rfl, rfl, rfl⟩
instance : Body Tryz.prog 38 Tryz.f38 ((Tryz.f38.body).getD .skip) 127 := ⟨Tryz.func38, rfl, rfl, rfl⟩
instance : Body Tryz.prog 39 Tryz.f39 ((Tryz.f39.body).getD .skip) 41 := ⟨Tryz.func39, rfl, rfl, rfl⟩
instance : Body Tryz.prog 40 Tryz.f40 ((Tryz.f40.body).getD .skip) 52 := ⟨Tryz.func40, rfl, rfl, rfl⟩
instance : Body Tryz.prog 41 Tryz.f41 ((Tryz.f41.body).getD .skip) 24 := ⟨Tryz.func41, rfl, rfl, rfl⟩
instance : Body Tryz.prog 42 Tryz.f42 ((Tryz.f42.body).getD .skip) 67 := ⟨Tryz.func42, rfl, rfl, rfl⟩
instance : Body Tryz.prog 43 Tryz.f43 ((Tryz.f43.body).getD .skip) 116 := ⟨Tryz.func43, rfl, rfl, rfl⟩
instance : Body Tryz.prog 44 Tryz.f44 ((Tryz.f44.body).getD .skip) 89 := ⟨Tryz.func44, rfl, rfl, rfl⟩
instance : Body Tryz.prog 45 Tryz.f45 ((Tryz.f45.body).getD .skip) 84 := ⟨Tryz.func45, rfl, rfl, rfl⟩
instance : Body Tryz.prog 46 Tryz.f46 ((Tryz.f46.body).getD .skip) 126 := ⟨Tryz.func46, rfl, rfl, rfl⟩
instance : Body Tryz.prog 47 Tryz.f47 ((Tryz.f47.body).getD .skip) 10 := ⟨Tryz.func47, rfl, rfl, rfl⟩
instance : Body Tryz.prog 48 Tryz.f48 ((Tryz.f48.body).getD .skip) 117 := ⟨Tryz.func48, rfl, rfl, rfl⟩
instance : Body Tryz.prog 49 Tryz.f49 ((Tryz.f49.body).getD .skip) 11 := ⟨Tryz.func49, rfl, rfl, rfl⟩
instance : Body Tryz.prog 50 Tryz.f50 ((Tryz.f50.body).getD .skip) 4 := ⟨Tryz.func50, rfl, rfl, rfl⟩
instance : Body Tryz.prog 51 Tryz.f51 ((Tryz.f51.body).getD .skip) 30 := ⟨Tryz.func51, rfl, rfl, rfl⟩
instance : Body Tryz.prog 52 Tryz.f52 ((Tryz.f52.body).getD .skip) 33 := ⟨Tryz.func52, rfl, rfl, rfl⟩
instance : Body Tryz.prog 53 Tryz.f53 ((Tryz.f53.body).getD .skip) 43 := ⟨Tryz.func53, rfl, rfl, rfl⟩
instance : Body Tryz.prog 54 Tryz.f54 ((Tryz.f54.body).getD .skip) 52 := ⟨Tryz.func54, rfl, rfl, rfl⟩
instance : Body Tryz.prog 55 Tryz.f55 ((Tryz.f55.body).getD .skip) 8 := ⟨Tryz.func55, rfl, rfl, rfl⟩
instance : Body Tryz.prog 56 Tryz.f56 ((Tryz.f56.body).getD .skip) 35 := ⟨Tryz.func56, rfl, rfl, rfl⟩
instance : Body Tryz.prog 57 Tryz.f57 ((Tryz.f57.body).getD .skip) 42 := ⟨Tryz.func57, rfl, rfl, rfl⟩
instance : Body Tryz.prog 58 Tryz.f58 ((Tryz.f58.body).getD .skip) 7 := ⟨Tryz.func58, rfl, rfl, rfl⟩
instance : Body Tryz.prog 59 Tryz.f59 ((Tryz.f59.body).getD .skip) 11 := ⟨Tryz.func59, rfl, rfl, rfl⟩
instance : Body Tryz.prog 60 Tryz.f60 ((Tryz.f60.body).getD .skip) 22 := ⟨Tryz.func60, rfl, rfl, rfl⟩
instance : Body Tryz.prog 61 Tryz.f61 ((Tryz.f61.body).getD .skip) 9 := ⟨Tryz.func61, rfl, rfl, rfl⟩
instance : Body Tryz.prog 62 Tryz.f62 ((Tryz.f62.body).getD .skip) 13 := ⟨Tryz.func62, rfl, rfl, rfl⟩
instance : Body Tryz.prog 63 Tryz.f63 ((Tryz.f63.body).getD .skip) 21 := ⟨Tryz.func63, rfl, rfl, rfl⟩
instance : Body Tryz.prog 65 Tryz.f65 ((Tryz.f65.body).getD .skip) 7 := ⟨Tryz.func65, rfl, rfl, rfl⟩
instance : Body Tryz.prog 69 Tryz.f69 ((Tryz.f69.body).getD .skip) 13 := ⟨Tryz.func69, rfl, rfl, rfl⟩
instance : Body Tryz.prog 74 Tryz.f74 ((Tryz.f74.body).getD .skip) 102 := ⟨Tryz.func74, rfl, rfl, rfl⟩
instance : Body Tryz.prog 75 Tryz.f75 ((Tryz.f75.body).getD .skip) 57 := ⟨Tryz.func75, rfl, rfl, rfl⟩
instance : Body Tryz.prog 76 Tryz.f76 ((Tryz.f76.body).getD .skip) 24 := ⟨Tryz.func76, rfl, rfl, rfl⟩
instance : Body Tryz.prog 77 Tryz.f77 ((Tryz.f77.body).getD .skip) 41 := ⟨Tryz.func77, rfl, rfl, rfl⟩
instance : Body Tryz.prog 78 Tryz.f78 ((Tryz.f78.body).getD .skip) 49 := ⟨Tryz.func78, rfl, rfl, rfl⟩
instance : Body Tryz.prog 79 Tryz.f79 ((Tryz.f79.body).getD .skip) 8 := ⟨Tryz.func79, rfl, rfl, rfl⟩
instance : Body Tryz.prog 80 Tryz.f80 ((Tryz.f80.body).getD .skip) 21 := ⟨Tryz.func80, rfl, rfl, rfl⟩
instance : Body Tryz.prog 81 Tryz.f81 ((Tryz.f81.body).getD .skip) 9 := ⟨Tryz.func81, rfl, rfl, rfl⟩
instance : Body Tryz.prog 82 Tryz.f82 ((Tryz.f82.body).getD .skip) 9 := ⟨Tryz.func82, rfl, rfl, rfl⟩
instance : Body Tryz.prog 83 Tryz.f83 ((Tryz.f83.body).getD .skip) 9 := ⟨Tryz.func83, rfl, rfl, rfl⟩
instance : Body Tryz.prog 84 Tryz.f84 ((Tryz.f84.body).getD .skip) 9 := ⟨Tryz.func84, rfl, rfl, rfl⟩
instance : Body Tryz.prog 85 Tryz.f85 ((Tryz.f85.body).getD .skip) 8 := ⟨Tryz.func85, rfl, rfl, rfl⟩
instance : Body Tryz.prog 86 Tryz.f86 ((Tryz.f86.body).getD .skip) 8 := ⟨Tryz.func86, rfl, rfl, rfl⟩
instance : Body Tryz.prog 87 Tryz.f87 ((Tryz.f87.body).getD .skip) 11 := ⟨Tryz.func87, rfl, rfl, rfl⟩
instance : Body Tryz.prog 88 Tryz.f88 ((Tryz.f88.body).getD .skip) 8 := ⟨Tryz.func88, rfl, rfl, rfl⟩
instance : Body Tryz.prog 89 Tryz.f89 ((Tryz.f89.body).getD .skip) 23 := ⟨Tryz.func89, rfl, rfl, rfl⟩
instance : Body Tryz.prog 90 Tryz.f90 ((Tryz.f90.body).getD .skip) 25 := ⟨Tryz.func90, rfl, rfl, rfl⟩
instance : Body Tryz.prog 91 Tryz.f91 ((Tryz.f91.body).getD .skip) 8 := ⟨Tryz.func91, rfl, rfl, rfl⟩
instance : Body Tryz.prog 95 Tryz.f95 ((Tryz.f95.body).getD .skip) 10 := ⟨Tryz.func95, rfl, rfl, rfl⟩
instance : Body Tryz.prog 96 Tryz.f96 ((Tryz.f96.body).getD .skip) 10 := ⟨Tryz.func96, rfl, rfl, rfl⟩
instance : Body Tryz.prog 98 Tryz.f98 ((Tryz.f98.body).getD .skip) 9 := ⟨Tryz.func98, rfl, rfl, rfl⟩
instance : Body Tryz.prog 100 Tryz.f100 ((Tryz.f100.body).getD .skip) 12 := ⟨Tryz.func100, rfl, rfl, rfl⟩
instance : Body Tryz.prog 101 Tryz.f101 ((Tryz.f101.body).getD .skip) 10 := ⟨Tryz.func101, rfl, rfl, rfl⟩
instance : Body Tryz.prog 105 Tryz.f105 ((Tryz.f105.body).getD .skip) 62 := ⟨Tryz.func105, rfl, rfl, rfl⟩
instance : Body Tryz.prog 107 Tryz.f107 ((Tryz.f107.body).getD .skip) 54 := ⟨Tryz.func107, rfl, rfl, rfl⟩
instance : Body Tryz.prog 109 Tryz.f109 ((Tryz.f109.body).getD .skip) 139 := ⟨Tryz.func109, rfl, rfl, rfl⟩
instance : Body Tryz.prog 111 Tryz.f111 ((Tryz.f111.body).getD .skip) 43 := ⟨Tryz.func111, rfl, rfl, rfl⟩
instance : Body Tryz.prog 114 Tryz.f114 ((Tryz.f114.body).getD .skip) 115 := ⟨Tryz.func114, rfl, rfl, rfl⟩
instance : Body Tryz.prog 115 Tryz.f115 ((Tryz.f115.body).getD .skip) 109 := ⟨Tryz.func115, rfl, rfl, rfl⟩
instance : Body Tryz.prog 116 Tryz.f116 ((Tryz.f116.body).getD .skip) 25 := ⟨Tryz.func116, rfl, rfl, rfl⟩
instance : Body Tryz.prog 117 Tryz.f117 ((Tryz.f117.body).getD .skip) 91 := ⟨Tryz.func117, rfl, rfl, rfl⟩
instance : Body Tryz.prog 118 Tryz.f118 ((Tryz.f118.body).getD .skip) 47 := ⟨Tryz.func118, rfl, rfl, rfl⟩
instance : Body Tryz.prog 119 Tryz.f119 ((Tryz.f119.body).getD .skip) 19 := ⟨Tryz.func119, rfl, rfl, rfl⟩
instance : Body Tryz.prog 120 Tryz.f120 ((Tryz.f120.body).getD .skip) 124 := ⟨Tryz.func120, rfl, rfl, rfl⟩
instance : Body Tryz.prog 121 Tryz.f121 ((Tryz.f121.body).getD .skip) 49 := ⟨Tryz.func121, rfl, rfl, rfl⟩
instance : Body Tryz.prog 122 Tryz.f122 ((Tryz.f122.body).getD .skip) 23 := ⟨Tryz.func122, rfl, rfl, rfl⟩
instance : Body Tryz.prog 123 Tryz.f123 ((Tryz.f123.body).getD .skip) 52 := ⟨Tryz.func123, rfl, rfl, rfl⟩
instance : Body Tryz.prog 124 Tryz.f124 ((Tryz.f124.body).getD .skip) 64 := ⟨Tryz.func124, rfl, rfl, rfl⟩
instance : Body Tryz.prog 125 Tryz.f125 ((Tryz.f125.body).getD .skip) 144 := ⟨Tryz.func125, rfl, rfl, rfl⟩
instance : Body Tryz.prog 126 Tryz.f126 ((Tryz.f126.body).getD .skip) 26 := ⟨Tryz.func126, rfl, rfl, rfl⟩
instance : Body Tryz.prog 127 Tryz.f127 ((Tryz.f127.body).getD .skip) 8 := ⟨Tryz.func127, rfl, rfl, rfl⟩
instance : Body Tryz.prog 128 Tryz.f128 ((Tryz.f128.body).getD .skip) 21 := ⟨Tryz.func128, rfl, rfl, rfl⟩
instance : Body Tryz.prog 129 Tryz.f129 ((Tryz.f129.body).getD .skip) 24 := ⟨Tryz.func129, rfl, rfl, rfl⟩
instance : Body Tryz.prog 130 Tryz.f130 ((Tryz.f130.body).getD .skip) 27 := ⟨Tryz.func130, rfl, rfl, rfl⟩
instance : Body Tryz.prog 131 Tryz.f131 ((Tryz.f131.body).getD .skip) 14 := ⟨Tryz.func131, rfl, rfl, rfl⟩
instance : Body Tryz.prog 132 Tryz.f132 ((Tryz.f132.body).getD .skip) 35 := ⟨Tryz.func132, rfl, rfl, rfl⟩
instance : Body Tryz.prog 133 Tryz.f133 ((Tryz.f133.body).getD .skip) 34 := ⟨Tryz.func133, rfl, rfl, rfl⟩
instance : Body Tryz.prog 134 Tryz.f134 ((Tryz.f134.body).getD .skip) 32 := ⟨Tryz.func134, rfl, rfl, rfl⟩
instance : Body Tryz.prog 135 Tryz.f135 ((Tryz.f135.body).getD .skip) 32 := ⟨Tryz.func135, rfl, rfl, rfl⟩
instance : Body Tryz.prog 136 Tryz.f136 ((Tryz.f136.body).getD .skip) 6 := ⟨Tryz.func136, rfl, rfl, rfl⟩
instance : Body Tryz.prog 137 Tryz.f137 ((Tryz.f137.body).getD .skip) 24 := ⟨Tryz.func137, rfl, rfl, rfl⟩
instance : Body Tryz.prog 138 Tryz.f138 ((Tryz.f138.body).getD .skip) 8 := ⟨Tryz.func138, rfl, rfl, rfl⟩
instance : Body Tryz.prog 139 Tryz.f139 ((Tryz.f139.body).getD .skip) 21 := ⟨Tryz.func139, rfl, rfl, rfl⟩
instance : Body Tryz.prog 140 Tryz.f140 ((Tryz.f140.body).getD .skip) 16 := ⟨Tryz.func140, rfl, rfl, rfl⟩
instance : Body Tryz.prog 141 Tryz.f141 ((Tryz.f141.body).getD .skip) 27 := ⟨Tryz.func141, rfl, rfl, rfl⟩
instance : Body Tryz.prog 142 Tryz.f142 ((Tryz.f142.body).getD .skip) 73 := ⟨Tryz.func142, rfl, rfl, rfl⟩
instance : Body Tryz.prog 143 Tryz.f143 ((Tryz.f143.body).getD .skip) 6 := ⟨Tryz.func143, rfl, rfl, rfl⟩
instance : Body Tryz.prog 144 Tryz.f144 ((Tryz.f144.body).getD .skip) 44 := ⟨Tryz.func144, rfl, rfl, rfl⟩
instance : Body Tryz.prog 145 Tryz.f145 ((Tryz.f145.body).getD .skip) 92 := ⟨Tryz.func145, rfl, rfl, rfl⟩
instance : Body Tryz.prog 146 Tryz.f146 ((Tryz.f146.body).getD .skip) 27 := ⟨Tryz.func146, rfl, rfl, rfl⟩
instance : Body Tryz.prog 159 Tryz.f159 ((Tryz.f159.body).getD .skip) 36 := ⟨Tryz.func159, rfl, rfl, rfl⟩
instance : Body Tryz.prog 160 Tryz.f160 ((Tryz.f160.body).getD .skip) 29 := ⟨Tryz.func160, rfl, rfl, rfl⟩
instance : Body Tryz.prog 161 Tryz.f161 ((Tryz.f161.body).getD .skip) 32 := ⟨Tryz.func161, rfl, rfl, rfl⟩
instance : Body Tryz.prog 162 Tryz.f162 ((Tryz.f162.body).getD .skip) 39 := ⟨Tryz.func162, rfl, rfl, rfl⟩
instance : Body Tryz.prog 163 Tryz.f163 ((Tryz.f163.body).getD .skip) 14 := ⟨Tryz.func163, rfl, rfl, rfl⟩
instance : Body Tryz.prog 164 Tryz.f164 ((Tryz.f164.body).getD .skip) 151 := ⟨Tryz.func164, rfl, rfl, rfl⟩
instance : Body Tryz.prog 165 Tryz.f165 ((Tryz.f165.body).getD .skip) 56 := ⟨Tryz.func165, rfl, rfl, rfl⟩
instance : Body Tryz.prog 166 Tryz.f166 ((Tryz.f166.body).getD .skip) 27 := ⟨Tryz.func166, rfl, rfl, rfl⟩
instance : Body Tryz.prog 167 Tryz.f167 ((Tryz.f167.body).getD .skip) 33 := ⟨Tryz.func167, rfl, rfl, rfl⟩
instance : Body Tryz.prog 168 Tryz.f168 ((Tryz.f168.body).getD .skip) 22 := ⟨Tryz.func168, rfl, rfl, rfl⟩
instance : Body Tryz.prog 169 Tryz.f169 ((Tryz.f169.body).getD .skip) 25 := ⟨Tryz.func169, rfl, rfl, rfl⟩
instance : Body Tryz.prog 170 Tryz.f170 ((Tryz.f170.body).getD .skip) 73 := ⟨Tryz.func170, rfl, rfl, rfl⟩
instance : Body Tryz.prog 171 Tryz.f171 ((Tryz.f171.body).getD .skip) 118 := ⟨Tryz.func171, rfl, rfl, rfl⟩
instance : Body Tryz.prog 172 Tryz.f172 ((Tryz.f172.body).getD .skip) 110 := ⟨Tryz.func172, rfl, rfl, rfl⟩
instance : Body Tryz.prog 173 Tryz.f173 ((Tryz.f173.body).getD .skip) 78 := ⟨Tryz.func173, rfl, rfl, rfl⟩
instance : Body Tryz.prog 174 Tryz.f174 ((Tryz.f174.body).getD .skip) 53 := ⟨Tryz.func174, rfl, rfl, rfl⟩
instance : Body Tryz.prog 175 Tryz.f175 ((Tryz.f175.body).getD .skip) 71 := ⟨Tryz.func175, rfl, rfl, rfl⟩
instance : Body Tryz.prog 176 Tryz.f176 ((Tryz.f176.body).getD .skip) 73 := ⟨Tryz.func176, rfl, rfl, rfl⟩
instance : Body Tryz.prog 177 Tryz.f177 ((Tryz.f177.body).getD .skip) 15 := ⟨Tryz.func177, rfl, rfl, rfl⟩
instance : Body Tryz.prog 178 Tryz.f178 ((Tryz.f178.body).getD .skip) 24 := ⟨Tryz.func178, rfl, rfl, rfl⟩
instance : Body Tryz.prog 179 Tryz.f179 ((Tryz.f179.body).getD .skip) 19 := ⟨Tryz.func179, rfl, rfl, rfl⟩
instance : Body Tryz.prog 180 Tryz.f180 ((Tryz.f180.body).getD .skip) 39 := ⟨Tryz.func180, rfl, rfl, rfl⟩
instance : Body Tryz.prog 181 Tryz.f181 ((Tryz.f181.body).getD .skip) 8 := ⟨Tryz.func181, rfl, rfl, rfl⟩
instance : Body Tryz.prog 182 Tryz.f182 ((Tryz.f182.body).getD .skip) 37 := ⟨Tryz.func182, rfl, rfl, rfl⟩
instance : Body Tryz.prog 183 Tryz.f183 ((Tryz.f183.body).getD .skip) 62 := ⟨Tryz.func183, rfl, rfl, rfl⟩
instance : Body Tryz.prog 184 Tryz.f184 ((Tryz.f184.body).getD .skip) 11 := ⟨Tryz.func184, rfl, rfl, rfl⟩
instance : Body Tryz.prog 185 Tryz.f185 ((Tryz.f185.body).getD .skip) 104 := ⟨Tryz.func185, rfl, rfl, rfl⟩
instance : Body Tryz.prog 186 Tryz.f186 ((Tryz.f186.body).getD .skip) 132 := ⟨Tryz.func186, rfl, rfl, rfl⟩
instance : Body Tryz.prog 187 Tryz.f187 ((Tryz.f187.body).getD .skip) 162 := ⟨Tryz.func187, rfl, rfl, rfl⟩
instance : Body Tryz.prog 188 Tryz.f188 ((Tryz.f188.body).getD .skip) 78 := ⟨Tryz.func188, rfl, rfl, rfl⟩
instance : Body Tryz.prog 189 Tryz.f189 ((Tryz.f189.body).getD .skip) 93 := ⟨Tryz.func189, rfl, rfl, rfl⟩
instance : Body Tryz.prog 190 Tryz.f190 ((Tryz.f190.body).getD .skip) 58 := ⟨Tryz.func190, rfl, rfl, rfl⟩
instance : Body Tryz.prog 191 Tryz.f191 ((Tryz.f191.body).getD .skip) 41 := ⟨Tryz.func191, rfl, rfl, rfl⟩
instance : Body Tryz.prog 192 Tryz.f192 ((Tryz.f192.body).getD .skip) 19 := ⟨Tryz.func192, rfl, rfl, rfl⟩
instance : Body Tryz.prog 193 Tryz.f193 ((Tryz.f193.body).getD .skip) 26 := ⟨Tryz.func193, rfl, rfl, rfl⟩
instance : Body Tryz.prog 194 Tryz.f194 ((Tryz.f194.body).getD .skip) 32 := ⟨Tryz.func194, rfl, rfl, rfl⟩
instance : Body Tryz.prog 195 Tryz.f195 ((Tryz.f195.body).getD .skip) 28 := ⟨Tryz.func195, rfl, rfl, rfl⟩
instance : Body Tryz.prog 196 Tryz.f196 ((Tryz.f196.body).getD .skip) 18 := ⟨Tryz.func196, rfl, rfl, rfl⟩
instance : Body Tryz.prog 197 Tryz.f197 ((Tryz.f197.body).getD .skip) 33 := ⟨Tryz.func197, rfl, rfl, rfl⟩
instance : Body Tryz.prog 198 Tryz.f198 ((Tryz.f198.body).getD .skip) 13 := ⟨Tryz.func198, rfl, rfl, rfl⟩
instance : Body Tryz.prog 199 Tryz.f199 ((Tryz.f199.body).getD .skip) 30 := ⟨Tryz.func199, rfl, rfl, rfl⟩
instance : Body Tryz.prog 200 Tryz.f200 ((Tryz.f200.body).getD .skip) 21 := ⟨Tryz.func200, rfl, rfl, rfl⟩
instance : Body Tryz.prog 201 Tryz.f201 ((Tryz.f201.body).getD .skip) 21 := ⟨Tryz.func201, rfl, rfl, rfl⟩
instance : Body Tryz.prog 202 Tryz.f202 ((Tryz.f202.body).getD .skip) 30 := ⟨Tryz.func202, rfl, rfl, rfl⟩
instance : Body Tryz.prog 203 Tryz.f203 ((Tryz.f203.body).getD .skip) 47 := ⟨Tryz.func203, rfl, rfl, rfl⟩
instance : Body Tryz.prog 204 Tryz.f204 ((Tryz.f204.body).getD .skip) 14 := ⟨Tryz.func204, rfl, rfl, rfl⟩
instance : Body Tryz.prog 205 Tryz.f205 ((Tryz.f205.body).getD .skip) 48 := ⟨Tryz.func205, rfl, rfl, rfl⟩
instance : Body Tryz.prog 206 Tryz.f206 ((Tryz.f206.body).getD .skip) 72 := ⟨Tryz.func206, rfl, rfl, rfl⟩
instance : Body Tryz.prog 207 Tryz.f207 ((Tryz.f207.body).getD .skip) 12 := ⟨Tryz.func207, rfl, rfl, rfl⟩
instance : Body Tryz.prog 208 Tryz.f208 ((Tryz.f208.body).getD .skip) 134 := ⟨Tryz.func208, rfl, rfl, rfl⟩
instance : Body Tryz.prog 209 Tryz.f209 ((Tryz.f209.body).getD .skip) 8 := ⟨Tryz.func209, rfl, rfl, rfl⟩
instance : Body Tryz.prog 210 Tryz.f210 ((Tryz.f210.body).getD .skip) 35 := ⟨Tryz.func210, rfl, rfl, rfl⟩
instance : Body Tryz.prog 211 Tryz.f211 ((Tryz.f211.body).getD .skip) 33 := ⟨Tryz.func211, rfl, rfl, rfl⟩
instance : Body Tryz.prog 212 Tryz.f212 ((Tryz.f212.body).getD .skip) 19 := ⟨Tryz.func212, rfl, rfl, rfl⟩
instance : Body Tryz.prog 213 Tryz.f213 ((Tryz.f213.body).getD .skip) 13 := ⟨Tryz.func213, rfl, rfl, rfl⟩
instance : Body Tryz.prog 214 Tryz.f214 ((Tryz.f214.body).getD .skip) 74 := ⟨Tryz.func214, rfl, rfl, rfl⟩
instance : Body Tryz.prog 215 Tryz.f215 ((Tryz.f215.body).getD .skip) 23 := ⟨Tryz.func215, rfl, rfl, rfl⟩
instance : Body Tryz.prog 216 Tryz.f216 ((Tryz.f216.body).getD .skip) 49 := ⟨Tryz.func216, rfl, rfl, rfl⟩
instance : Body Tryz.prog 217 Tryz.f217 ((Tryz.f217.body).getD .skip) 56 := ⟨Tryz.func217, rfl, rfl, rfl⟩
instance : Body Tryz.prog 218 Tryz.f218 ((Tryz.f218.body).getD .skip) 65 := ⟨Tryz.func218, rfl, rfl, rfl⟩
instance : Body Tryz.prog 219 Tryz.f219 ((Tryz.f219.body).getD .skip) 57 := ⟨Tryz.func219, rfl, rfl, rfl⟩
instance : Body Tryz.prog 220 Tryz.f220 ((Tryz.f220.body).getD .skip) 32 := ⟨Tryz.func220, rfl, rfl, rfl⟩
instance : Body Tryz.prog 221 Tryz.f221 ((Tryz.f221.body).getD .skip) 133 := ⟨Tryz.func221, rfl, rfl, rfl⟩
instance : Body Tryz.prog 222 Tryz.f222 ((Tryz.f222.body).getD .skip) 17 := ⟨Tryz.func222, rfl, rfl, rfl⟩
instance : Body Tryz.prog 223 Tryz.f223 ((Tryz.f223.body).getD .skip) 84 := ⟨Tryz.func223, rfl, rfl, rfl⟩
instance : Body Tryz.prog 224 Tryz.f224 ((Tryz.f224.body).getD .skip) 168 := ⟨Tryz.func224, rfl, rfl, rfl⟩
instance : Body Tryz.prog 225 Tryz.f225 ((Tryz.f225.body).getD .skip) 19 := ⟨Tryz.func225, rfl, rfl, rfl⟩
instance : Body Tryz.prog 226 Tryz.f226 ((Tryz.f226.body).getD .skip) 25 := ⟨Tryz.func226, rfl, rfl, rfl⟩
instance : Body Tryz.prog 227 Tryz.f227 ((Tryz.f227.body).getD .skip) 76 := ⟨Tryz.func227, rfl, rfl, rfl⟩
instance : Body Tryz.prog 228 Tryz.f228 ((Tryz.f228.body).getD .skip) 7 := ⟨Tryz.func228, rfl, rfl, rfl⟩
instance : Body Tryz.prog 229 Tryz.f229 ((Tryz.f229.body).getD .skip) 33 := ⟨Tryz.func229, rfl, rfl, rfl⟩
instance : Body Tryz.prog 230 Tryz.f230 ((Tryz.f230.body).getD .skip) 15 := ⟨Tryz.func230, rfl, rfl, rfl⟩
instance : Body Tryz.prog 231 Tryz.f231 ((Tryz.f231.body).getD .skip) 36 := ⟨Tryz.func231, rfl, rfl, rfl⟩
instance : Body Tryz.prog 232 Tryz.f232 ((Tryz.f232.body).getD .skip) 6 := ⟨Tryz.func232, rfl, rfl, rfl⟩
instance : Body Tryz.prog 233 Tryz.f233 ((Tryz.f233.body).getD .skip) 28 := ⟨Tryz.func233, rfl, rfl, rfl⟩
instance : Body Tryz.prog 253 Tryz.f253 ((Tryz.f253.body).getD .skip) 5 := ⟨Tryz.func253, rfl, rfl, rfl⟩
instance : Body Tryz.prog 254 Tryz.f254 ((Tryz.f254.body).getD .skip) 40 := ⟨Tryz.func254, rfl, rfl, rfl⟩
instance : Body Tryz.prog 255 Tryz.f255 ((Tryz.f255.body).getD .skip) 20 := ⟨Tryz.func255, rfl, rfl, rfl⟩
instance : Body Tryz.prog 260 Tryz.f260 ((Tryz.f260.body).getD .skip) 10 := ⟨Tryz.func260, rfl, rfl, rfl⟩
instance : Body Tryz.prog 274 Tryz.f274 ((Tryz.f274.body).getD .skip) 23 := ⟨Tryz.func274, rfl, rfl, rfl⟩
instance : Body Tryz.prog 275 Tryz.f275 ((Tryz.f275.body).getD .skip) 13 := ⟨Tryz.func275, rfl, rfl, rfl⟩
instance : Body Tryz.prog 276 Tryz.f276 ((Tryz.f276.body).getD .skip) 11 := ⟨Tryz.func276, rfl, rfl, rfl⟩
instance : Body Tryz.prog 277 Tryz.f277 ((Tryz.f277.body).getD .skip) 11 := ⟨Tryz.func277, rfl, rfl, rfl⟩
instance : Body Tryz.prog 278 Tryz.f278 ((Tryz.f278.body).getD .skip) 8 := ⟨Tryz.func278, rfl, rfl, rfl⟩
instance : Body Tryz.prog 281 Tryz.f281 ((Tryz.f281.body).getD .skip) 7 := ⟨Tryz.func281, rfl, rfl, rfl⟩
instance : Body Tryz.prog 294 Tryz.f294 ((Tryz.f294.body).getD .skip) 12 := ⟨Tryz.func294, rfl, rfl, rfl⟩
end Go.Sl
end
section
set_option linter.unusedVariables false
namespace Go.Sl
open Go.Proofs
instance : Ext_ Tryz.prog 64 Tryz.f64 (fun _ => do mark .disable; pure Extern.Race.none_) := ⟨Tryz.func64, rfl, rfl, by kernel_rfl, by kernel_rfl⟩
instance : Ext_ Tryz.prog 66 Tryz.f66 (fun _ => do mark .enable; pure Extern.Race.none_) := ⟨Tryz.func66, rfl, rfl, by kernel_rfl, by kernel_rfl⟩
instance : Ext_ Tryz.prog 67 Tryz.f67 (Extern.Race.marked .acquire) := ⟨Tryz.func67, rfl, rfl, by kernel_rfl, by kernel_rfl⟩
instance : Ext_ Tryz.prog 92 Tryz.f92 (Extern.Race.marked .releaseMerge) := ⟨Tryz.func92, rfl, rfl, by kernel_rfl, by kernel_rfl⟩
instance : Ext_ Tryz.prog 71 Tryz.f71 (Extern.Race.marked .write) := ⟨Tryz.func71, rfl, rfl, by kernel_rfl, by kernel_rfl⟩
instance : Ext_ Tryz.prog 97 Tryz.f97 (Extern.Race.marked .read) := ⟨Tryz.func97, rfl, rfl, by kernel_rfl, by kernel_rfl⟩
instance : Ext_ Tryz.prog 108 Tryz.f108 (Extern.Atomic.casT (.int .i32)) := ⟨Tryz.func108, rfl, rfl, by kernel_rfl, by kernel_rfl⟩
instance : Ext_ Tryz.prog 110 Tryz.f110 (Extern.Atomic.update (Op.intArith .add) .i32 true) := ⟨Tryz.func110, rfl, rfl, by kernel_rfl, by kernel_rfl⟩
instance : Ext_ Tryz.prog 112 Tryz.f112 (Extern.Atomic.loadT (.int .u64)) := ⟨Tryz.func112, rfl, rfl, by kernel_rfl, by kernel_rfl⟩
instance : Ext_ Tryz.prog 113 Tryz.f113 (Extern.Atomic.casT (.int .u64)) := ⟨Tryz.func113, rfl, rfl, by kernel_rfl, by kernel_rfl⟩
instance : Ext_ Tryz.prog 148 Tryz.f148 (Extern.Atomic.update (Op.intArith .add) .u64 true) := ⟨Tryz.func148, rfl, rfl, by kernel_rfl, by kernel_rfl⟩
instance : Ext_ Tryz.prog 149 Tryz.f149 Extern.Atomic.storeT := ⟨Tryz.func149, rfl, rfl, by kernel_rfl, by kernel_rfl⟩
instance : Ext_ Tryz.prog 73 Tryz.f73 Extern.Sync.semacquire := ⟨Tryz.func73, rfl, rfl, by kernel_rfl, by kernel_rfl⟩
instance : Ext_ Tryz.prog 99 Tryz.f99 Extern.Sync.semrelease := ⟨Tryz.func99, rfl, rfl, by kernel_rfl, by kernel_rfl⟩
instance : Ext_ Tryz.prog 72 Tryz.f72 (fun _ => pure (.bool false)) := ⟨Tryz.func72, rfl, rfl, by kernel_rfl, by kernel_rfl⟩
instance : Up Tryz.prog 143 := ⟨Tryz.underlying143⟩
end Go.Sl
end
section
set_option linter.unusedVariables false
namespace Go.Sl
section
variable {R : Nat → Goroutine → Array Obj → Prop} {d : Nat} {As F L : List HP} {g : Goroutine}
theorem all_perm {l m As : List HP} (p : l.Perm m) {h : HL} (s : Sat (all l :: As) h) : Sat (all m :: As) h := (s.flat.perm (p.append_right As)).unflat
theorem perm_out {X : Type} {l : List X} {i : Nat} (hi : i < l.length) : l.Perm (l[i] :: l.eraseIdx i) := by
  rw [List.eraseIdx_eq_take_drop_succ]
  conv => lhs; rw [← List.take_append_drop i l, List.drop_eq_getElem_cons hi]
  exact List.perm_middle
theorem perm_in {X : Type} {l : List X} {i : Nat} (hi : i < l.length) (u : X) : (l.set i u).Perm (u :: l.eraseIdx i) := by
  rw [List.eraseIdx_eq_take_drop_succ, List.set_eq_take_append_cons_drop, if_pos hi]
  exact List.perm_middle
variable {α : Type} {f : α → HP} {l : List α} {i : Nat}
theorem all_out (hi : i < l.length) (hf : Fo (all (l.map f)) As L) (h : At R d (f l[i] :: all ((l.eraseIdx i).map f) :: L) g) : At R d As g :=
  At.fo hf fun H s => h H (Sat.under (fun _ s => Sat.unflat s) (Sat.flat (l := f l[i] :: (l.eraseIdx i).map f) (all_perm ((perm_out hi).map f) s)))
theorem all_in (hi : i < l.length) (u : α) (hr : ReF [f u, all ((l.eraseIdx i).map f)] As L) (h : At R d (all ((l.set i u).map f) :: L) g) : At R d As g :=
  At.perm hr.perm fun H s => h H (all_perm ((perm_in hi u).symm.map f) (Sat.unflat (l := f u :: (l.eraseIdx i).map f) (Sat.under (fun _ s => Sat.flat s) s)))
theorem all_add (u : α) (hr : ReF [f u, all (l.map f)] As L) (h : At R d (all ((l ++ [u]).map f) :: L) g) : At R d As g :=
  At.perm hr.perm fun H s => h H (all_perm (by have := (List.perm_append_singleton u l).symm.map f; exact this) (Sat.unflat (l := f u :: l.map f) (Sat.under (fun _ s => Sat.flat s) s)))
end
end Go.Sl
end
section
namespace Go.Sl
structure OpR where
  w : Bool
  k : Int
  v : Int
structure MsgR where
  kind : Int
  frm : Int
  to : Int
  tx : Int
  yes : Bool
  ops : List OpR
  reads : List Int
structure RecR where
  kind : Int
  tx : Int
  yes : Bool
  home : Int
  ops : List OpR
  reads : List Int
structure VoteR where
  frm : Int
  reads : List Int
structure UndR where
  tx : Int
  ops : List OpR
  votes : List VoteR
  dec : Bool
  yes : Bool
  acks : List Int
structure TimR where
  tm : Int
  again : Bool
  tx : Int
structure HeldR where
  key : Int
  tx : Int
structure ShR where
  me : Int
  n : Int
  up : Bool
  log : List RecR
  good : Int
  vals : List Int
  locks : List HeldR
  under : List UndR
  timers : List TimR
  waits : List MsgR
  clock : Int
  out : List MsgR
def atR (key n : Int) : Int := (key - 97).tmod n
def partR (ops : List OpR) (s n : Int) : List OpR := ops.filter fun o => atR o.k n == s
def takesR (ops : List OpR) (s n : Int) : Bool := !(partR ops s n).isEmpty
def isRec (kind tx : Int) (r : RecR) : Bool := r.kind == kind && r.tx == tx
def findD (log : List RecR) (kind tx : Int) : Nat → Option Nat
  | 0 => none
  | i + 1 => if (log[i]?).any (isRec kind tx) then some i else findD log kind tx i
def findR (log : List RecR) (kind tx : Int) : Option Nat := findD log kind tx log.length
def readyR (log : List RecR) (tx : Int) : Option Nat := if (findR log 3 tx).isSome then none else findR log 1 tx
def underR (l : List UndR) (tx : Int) : Option Nat := l.findIdx? fun u => u.tx == tx
def sendR (s : ShR) (m : MsgR) : ShR := { s with out := s.out ++ [{ m with frm := s.me }] }
def waitR (s : ShR) (m : MsgR) : ShR := { s with waits := s.waits ++ [{ m with frm := s.me }] }
def msg0 : MsgR := ⟨0, 0, 0, 0, false, [], []⟩
def rec0 : RecR := ⟨0, 0, false, 0, [], []⟩
def upto (n : Int) : List Int := (List.range n.toNat).map Int.ofNat
def eachR (s : ShR) (ops : List OpR) (f : ShR → Int → List OpR → ShR) : ShR := (upto s.n).foldl (fun z k => if (partR ops k s.n).isEmpty then z else f z k (partR ops k s.n)) s
def beginR (s : ShR) (m : MsgR) : ShR :=
  match findR s.log 2 m.tx with
  | some d => if (d : Int) < s.good then sendR s { msg0 with kind := 7, to := -1, tx := m.tx, yes := (s.log[d]?.getD rec0).yes, reads := (s.log[d]?.getD rec0).reads } else s
  | none =>
    if (underR s.under m.tx).isSome then s else
    let s1 := eachR { s with under := s.under ++ [⟨m.tx, m.ops, [], false, false, []⟩] } m.ops fun z k p => sendR z { msg0 with kind := 2, to := k, tx := m.tx, ops := p }
    { s1 with timers := s1.timers ++ [⟨s1.clock + 4, true, m.tx⟩] }
def votedR (u : UndR) (k : Int) : Option VoteR := u.votes.find? fun v => v.frm == k
def readsGo (u : UndR) (n : Int) : List OpR → (Int → Nat) → List Int
  | [], _ => []
  | o :: l, used =>
    if o.w then readsGo u n l used else
    let k := atR o.k n
    (((votedR u k).map (·.reads)).getD [])[used k]?.getD 0 :: readsGo u n l (fun j => if j = k then used k + 1 else used j)
def readsR (u : UndR) (n : Int) : List Int := readsGo u n u.ops fun _ => 0
def allIn (n : Int) (ops : List OpR) (p : Int → Bool) : Bool := (upto n).all fun k => !takesR ops k n || p k
def voteR (s : ShR) (m : MsgR) : ShR :=
  match underR s.under m.tx with
  | none => s
  | some i =>
    match s.under[i]? with
    | none => s
    | some u =>
      if u.dec then s else
      let u1 := if m.yes && !(votedR u m.frm).isSome then { u with votes := u.votes ++ [⟨m.frm, m.reads⟩] } else u
      if m.yes && !allIn s.n u1.ops (fun k => (votedR u1 k).isSome) then { s with under := s.under.set i u1 } else
      let u2 := { u1 with dec := true, yes := m.yes }
      let rd := if m.yes then readsR u2 s.n else []
      let s1 := { s with under := s.under.set i u2, log := s.log ++ [{ rec0 with kind := 2, tx := m.tx, yes := m.yes, reads := rd }] }
      let s2 := eachR s1 u2.ops fun z k _ => waitR z { msg0 with kind := 4, to := k, tx := m.tx, yes := m.yes }
      waitR s2 { msg0 with kind := 7, to := -1, tx := m.tx, yes := m.yes, reads := rd }
def ackR (s : ShR) (m : MsgR) : ShR :=
  match underR s.under m.tx with
  | none => s
  | some i =>
    match s.under[i]? with
    | none => s
    | some u =>
      if !u.dec then s else
      let u1 := { u with acks := u.acks ++ [m.frm] }
      if allIn s.n u1.ops (fun k => u1.acks.contains k) then { s with under := s.under.eraseIdx i } else { s with under := s.under.set i u1 }
def askR (s : ShR) (m : MsgR) : ShR :=
  match findR s.log 2 m.tx with
  | some d => if (d : Int) < s.good then sendR s { msg0 with kind := 4, to := m.frm, tx := m.tx, yes := (s.log[d]?.getD rec0).yes } else s
  | none =>
    if (underR s.under m.tx).isSome then s else
    waitR { s with log := s.log ++ [{ rec0 with kind := 2, tx := m.tx }] } { msg0 with kind := 4, to := m.frm, tx := m.tx }
def lockedR (l : List HeldR) (key : Int) : Int := ((l.find? fun h => h.key == key).map (·.tx)).getD (-1)
def seenR (vals : List Int) (ops : List OpR) : List Int := (ops.filter fun o => !o.w).map fun o => vals[(o.k - 97).toNat]?.getD 0
def lockR (l : List HeldR) (tx : Int) (ops : List OpR) : List HeldR := l ++ ops.map fun o => ⟨o.k, tx⟩
def freeR (l : List HeldR) (tx : Int) : List HeldR := l.filter fun h => h.tx != tx
def writeR (vals : List Int) (ops : List OpR) : List Int := ops.foldl (fun v o => if o.w then v.set (o.k - 97).toNat o.v else v) vals
def prepareR (s : ShR) (m : MsgR) : ShR :=
  let no := { msg0 with kind := 3, to := m.frm, tx := m.tx }
  let yes := { no with yes := true, reads := seenR s.vals m.ops }
  match readyR s.log m.tx with
  | some r => if (r : Int) < s.good then sendR s { yes with reads := seenR s.vals (s.log[r]?.getD rec0).ops } else s
  | none =>
    match findR s.log 3 m.tx with
    | some d => if (s.log[d]?.getD rec0).yes then s else sendR s no
    | none =>
      if m.ops.any (fun o => decide (lockedR s.locks o.k ≥ 0)) then sendR s no else
      let s1 := waitR { s with locks := lockR s.locks m.tx m.ops, log := s.log ++ [{ rec0 with kind := 1, tx := m.tx, home := m.frm, ops := m.ops }] } yes
      { s1 with timers := s1.timers ++ [⟨s1.clock + 3, false, m.tx⟩] }
def decideR (s : ShR) (m : MsgR) : ShR :=
  match readyR s.log m.tx with
  | some r =>
    let s1 := if m.yes then { s with vals := writeR s.vals (s.log[r]?.getD rec0).ops } else s
    waitR { s1 with locks := freeR s.locks m.tx, log := s.log ++ [{ rec0 with kind := 3, tx := m.tx, yes := m.yes }] } { msg0 with kind := 5, to := m.frm, tx := m.tx }
  | none =>
    match findR s.log 3 m.tx with
    | some d => if (d : Int) < s.good then sendR s { msg0 with kind := 5, to := m.frm, tx := m.tx } else s
    | none => if m.yes then s else waitR { s with log := s.log ++ [{ rec0 with kind := 3, tx := m.tx, yes := m.yes }] } { msg0 with kind := 5, to := m.frm, tx := m.tx }
def takeR (s : ShR) (m : MsgR) : ShR :=
  if m.kind = 1 then beginR s m else if m.kind = 2 then prepareR s m else if m.kind = 3 then voteR s m else if m.kind = 4 then decideR s m else if m.kind = 5 then ackR s m else if m.kind = 6 then askR s m else s
def syncR (s : ShR) : ShR := { s with good := s.log.length, out := s.out ++ s.waits, waits := [] }
def dueR (clock : Int) : List TimR → Nat → Option (Nat × TimR) → Option (Nat × TimR)
  | [], _, k => k
  | t :: l, i, k => dueR clock l (i + 1) (if decide (t.tm ≤ clock) && (match k with | none => true | some (_, u) => decide (t.tm < u.tm)) then some (i, t) else k)
def offR (s : ShR) (t : TimR) : ShR :=
  if !t.again then
    match readyR s.log t.tx with
    | some r =>
      let s1 := sendR s { msg0 with kind := 6, to := (s.log[r]?.getD rec0).home, tx := t.tx }
      { s1 with timers := s1.timers ++ [⟨s1.clock + 3, false, t.tx⟩] }
    | none => s
  else
    match underR s.under t.tx with
    | none => s
    | some i =>
      match s.under[i]? with
      | none => s
      | some u =>
        let good := match findR s.log 2 t.tx with | some d => decide ((d : Int) < s.good) | none => decide (-1 < s.good)
        let s1 := eachR s u.ops fun z k p =>
          if !u.dec && !(votedR u k).isSome then sendR z { msg0 with kind := 2, to := k, tx := t.tx, ops := p }
          else if u.dec && good && !u.acks.contains k then sendR z { msg0 with kind := 4, to := k, tx := t.tx, yes := u.yes }
          else z
        { s1 with timers := s1.timers ++ [⟨s1.clock + 4, true, t.tx⟩] }
def tickGo : Nat → ShR → ShR
  | 0, s => s
  | f + 1, s =>
    match dueR s.clock s.timers 0 none with
    | none => s
    | some (k, t) => tickGo f (offR { s with timers := s.timers.eraseIdx k } t)
def dueN (s : ShR) : Nat := (s.timers.filter fun t => t.tm ≤ s.clock).length
def tickR (s : ShR) : ShR := let s1 := { s with clock := s.clock + 1 }; tickGo (dueN s1 + 1) s1
def zeros26 : List Int := List.replicate 26 0
def forgetR (s : ShR) : ShR := { s with vals := zeros26, locks := [], under := [], timers := [], waits := [], clock := 0 }
def crashR (s : ShR) (keep : Int) : ShR :=
  let k := if keep < 0 then 0 else keep
  let n := (s.log.length : Int) - s.good
  let n := if k < n then k else n
  forgetR { s with up := false, good := s.good + n, log := s.log.take (s.good + n).toNat }
def prepD (log : List RecR) (tx : Int) (i : Nat) : Option Nat := findD log 1 tx i
def replayR (log : List RecR) : Nat → ShR → ShR
  | 0, s => s
  | i + 1, s =>
    let s := replayR log i s
    match log[i]? with
    | none => s
    | some r =>
      if r.kind = 1 then { s with locks := lockR s.locks r.tx r.ops }
      else if r.kind = 3 then
        let s1 := match prepD log r.tx i with | some p => if r.yes then { s with vals := writeR s.vals (log[p]?.getD rec0).ops } else s | none => s
        { s1 with locks := freeR s1.locks r.tx }
      else s
def askTimers (log : List RecR) : List TimR := ((upto 60).filter fun tx => (readyR log tx).isSome).map fun tx => ⟨3, false, tx⟩
def restartR (s : ShR) : ShR :=
  let s1 := replayR s.log s.log.length (forgetR { s with up := true })
  { s1 with timers := s1.timers ++ askTimers s.log }
structure TxR where
  ops : List OpR
  state : Int
  reads : List Int
structure WR where
  sh : List ShR
  bag : List MsgR
  txs : List TxR
  stopped : Bool
def newSh (k n : Int) : ShR := forgetR ⟨k, n, true, [], 0, [], [], [], [], [], 0, []⟩
def newW (n : Int) : WR := ⟨(upto n).map fun k => newSh k n, [], [], false⟩
def okOp (o : OpR) : Prop := 97 ≤ o.k ∧ o.k ≤ 122 ∧ (o.w = true ∨ o.v = 0)
instance (o : OpR) : Decidable (okOp o) := by unfold okOp; exact inferInstance
def rightP (l : List OpR) : Prop := (∀ o ∈ l, okOp o) ∧ (l.map (·.k)).Nodup ∧ 1 ≤ l.length ∧ l.length ≤ 6
instance (l : List OpR) : Decidable (rightP l) := by unfold rightP; exact inferInstance
def homeR (ops : List OpR) (n : Int) : Int := match ops with | o :: _ => atR o.k n | [] => 0
def beginW (w : WR) (tx : Nat) : WR :=
  match w.txs[tx]? with
  | none => w
  | some t => { w with bag := w.bag ++ [{ msg0 with kind := 1, frm := -1, to := homeR t.ops w.sh.length, tx := tx, ops := t.ops }] }
def submitW (w : WR) (ops : List OpR) : WR × Int × Int :=
  if w.stopped then (w, 0, 9) else if ¬ rightP ops then (w, 0, 2) else if w.txs.length = 60 ∨ 400 ≤ w.bag.length then (w, 0, 3)
  else (beginW { w with txs := w.txs ++ [⟨ops, 1, []⟩] } w.txs.length, w.txs.length, 0)
def sentW (w : WR) (a : Nat) (s : ShR) : WR := { w with sh := w.sh.set a { s with out := [] }, bag := w.bag ++ s.out }
def replyW (w : WR) (m : MsgR) : WR :=
  match w.txs[m.tx.toNat]? with
  | none => w
  | some t => if t.state = 1 then { w with txs := w.txs.set m.tx.toNat (if m.yes then { t with state := 2, reads := m.reads } else { t with state := 3 }) } else w
def messageW (w : WR) (k i : Int) : WR × Int :=
  if i < 0 ∨ (w.bag.length : Int) ≤ i then (w, 5) else
  match w.bag[i.toNat]? with
  | none => (w, 5)
  | some m =>
    if k = 4 then (if 400 ≤ w.bag.length then (w, 3) else ({ w with bag := w.bag ++ [m] }, 0)) else
    let w1 := { w with bag := w.bag.eraseIdx i.toNat }
    if k = 3 then (w1, 0) else
    if m.to = -1 then (replyW w1 m, 0) else
    match w1.sh[m.to.toNat]? with
    | none => (w1, 0)
    | some s => if s.up then (sentW w1 m.to.toNat (takeR s m), 0) else (w1, 0)
def doW (w : WR) (k a b : Int) : WR × Int :=
  if k < 1 ∨ 8 < k then (w, 0) else if w.stopped then (w, 9)
  else if k = 1 then (if a < 0 ∨ (w.txs.length : Int) ≤ a then (w, 4) else if 400 ≤ w.bag.length then (w, 3) else (beginW w a.toNat, 0))
  else if k ≤ 4 then messageW w k a
  else if a < 0 ∨ (w.sh.length : Int) ≤ a then (w, 6)
  else match w.sh[a.toNat]? with
    | none => (w, 6)
    | some s =>
      if k = 8 then (if s.up then (w, 8) else ({ w with sh := w.sh.set a.toNat (restartR s) }, 0))
      else if !s.up then (w, 7)
      else if k = 5 then (sentW w a.toNat (syncR s), 0)
      else if k = 6 then (if 150 < w.bag.length then (w, 3) else (sentW w a.toNat (tickR s), 0))
      else (sentW w a.toNat (crashR s b), 0)
end Go.Sl
end
section
namespace Go.Sl
inductive EntP where
  | prep (tx home : Int) (ops : List OpR)
  | dec (tx : Int) (yes : Bool) (reads : List Int)
  | don (tx : Int) (yes : Bool)
def EntP.recd : EntP → RecR
  | .prep tx home ops => { rec0 with kind := 1, tx := tx, home := home, ops := ops }
  | .dec tx yes reads => { rec0 with kind := 2, tx := tx, yes := yes, reads := reads }
  | .don tx yes => { rec0 with kind := 3, tx := tx, yes := yes }
structure PlaceP where
  pl : Int
  yes : Bool
structure PendP where
  pl : Int
  home : Int
  ops : List OpR
structure UndP where
  ops : List OpR
  votes : List (Int × List Int)
  acks : List (Int × Int)
  dec : Bool
  yes : Bool
structure ShP where
  me : Int
  n : Int
  up : Bool
  log : List EntP
  good : Int
  values : List (Int × Int)
  locks : List (Int × Int)
  pend : List (Int × PendP)
  done : List (Int × PlaceP)
  decd : List (Int × PlaceP)
  und : List (Int × UndP)
  timers : List TimR
  clock : Int
  waits : List MsgR
  out : List MsgR
def partsP (ops : List OpR) (n : Int) : List (Int × List OpR) := ops.foldl (fun m o => setM m (atR o.k n) ((getM m (atR o.k n)).getD [] ++ [o])) []
def sendP (s : ShP) (m : MsgR) : ShP := { s with out := s.out ++ [{ m with frm := s.me }] }
def waitP (s : ShP) (m : MsgR) : ShP := { s with waits := s.waits ++ [{ m with frm := s.me }] }
def alarmP (s : ShP) (tx ticks : Int) (again : Bool) : ShP := { s with timers := s.timers ++ [⟨s.clock + ticks, again, tx⟩] }
def eachP (s : ShP) (ops : List OpR) (f : ShP → Int → List OpR → ShP) : ShP :=
  (upto s.n).foldl (fun z k => if ((getM (partsP ops s.n) k).getD []).isEmpty then z else f z k ((getM (partsP ops s.n) k).getD [])) s
def beginP (s : ShP) (m : MsgR) : ShP :=
  match getM s.decd m.tx with
  | some d => if d.pl < s.good then sendP s { msg0 with kind := 7, to := -1, tx := m.tx, yes := d.yes, reads := ((s.log[d.pl.toNat]?.map EntP.recd).getD rec0).reads } else s
  | none =>
    if (getM s.und m.tx).isSome then s else
    alarmP (eachP { s with und := setM s.und m.tx ⟨m.ops, [], [], false, false⟩ } m.ops fun z k p => sendP z { msg0 with kind := 2, to := k, tx := m.tx, ops := p }) m.tx 4 true
def readsPGo (u : UndP) (n : Int) : List OpR → List (Int × Int) → Option (List Int)
  | [], _ => some []
  | o :: l, next =>
    if o.w then readsPGo u n l next else
    let k := atR o.k n
    let i := (getM next k).getD 0
    match ((getM u.votes k).getD [])[i.toNat]? with
    | none => none
    | some x => (readsPGo u n l (setM next k (i + 1))).map (x :: ·)
def readsP (u : UndP) (n : Int) : Option (List Int) := readsPGo u n u.ops []
def voteP (s : ShP) (m : MsgR) : ShP :=
  match getM s.und m.tx with
  | none => s
  | some u =>
    if u.dec then s else
    let u1 := if m.yes && !(getM u.votes m.frm).isSome then { u with votes := setM u.votes m.frm m.reads } else u
    if m.yes && decide (u1.votes.length < (partsP u1.ops s.n).length) then { s with und := setM s.und m.tx u1 } else
    let rd := if m.yes then (readsP u1 s.n).getD [] else []
    let s1 := { s with und := setM s.und m.tx { u1 with dec := true, yes := m.yes }, log := s.log ++ [.dec m.tx m.yes rd], decd := setM s.decd m.tx ⟨s.log.length, m.yes⟩ }
    let s2 := eachP s1 u1.ops fun z k _ => waitP z { msg0 with kind := 4, to := k, tx := m.tx, yes := m.yes }
    waitP s2 { msg0 with kind := 7, to := -1, tx := m.tx, yes := m.yes, reads := rd }
def ackP (s : ShP) (m : MsgR) : ShP :=
  match getM s.und m.tx with
  | none => s
  | some u =>
    if !u.dec then s else
    let u1 := { u with acks := setM u.acks m.frm ((getM u.acks m.frm).getD 0 + 1) }
    if u1.acks.length = (partsP u1.ops s.n).length then { s with und := delM (setM s.und m.tx u1) m.tx } else { s with und := setM s.und m.tx u1 }
def askP (s : ShP) (m : MsgR) : ShP :=
  match getM s.decd m.tx with
  | some d => if d.pl < s.good then sendP s { msg0 with kind := 4, to := m.frm, tx := m.tx, yes := d.yes } else s
  | none =>
    if (getM s.und m.tx).isSome then s else
    waitP { s with log := s.log ++ [.dec m.tx false []], decd := setM s.decd m.tx ⟨s.log.length, false⟩ } { msg0 with kind := 4, to := m.frm, tx := m.tx }
def seenP (values : List (Int × Int)) (ops : List OpR) : List Int := (ops.filter fun o => !o.w).map fun o => (getM values o.k).getD 0
def holdP (s : ShP) (tx home : Int) (ops : List OpR) (pl : Int) : ShP := { s with locks := ops.foldl (fun l o => setM l o.k tx) s.locks, pend := setM s.pend tx ⟨pl, home, ops⟩ }
def finishP (s : ShP) (tx : Int) (yes : Bool) (pl : Int) : ShP :=
  let ops := ((getM s.pend tx).map (·.ops)).getD []
  { s with values := ops.foldl (fun v o => if yes && o.w then setM v o.k o.v else v) s.values, locks := ops.foldl (fun l o => delM l o.k) s.locks, pend := delM s.pend tx, done := setM s.done tx ⟨pl, yes⟩ }
def prepareP (s : ShP) (m : MsgR) : ShP :=
  let answer := { msg0 with kind := 3, to := m.frm, tx := m.tx }
  match getM s.pend m.tx with
  | some p => if p.pl < s.good then sendP s { answer with yes := true, reads := seenP s.values p.ops } else s
  | none =>
    match getM s.done m.tx with
    | some d => if d.yes then s else sendP s answer
    | none =>
      if m.ops.any (fun o => (getM s.locks o.k).isSome) then sendP s answer else
      let s1 := holdP { s with log := s.log ++ [.prep m.tx m.frm m.ops] } m.tx m.frm m.ops s.log.length
      alarmP (waitP s1 { answer with yes := true, reads := seenP s1.values m.ops }) m.tx 3 false
def decideP (s : ShP) (m : MsgR) : ShP :=
  let fin := waitP (finishP { s with log := s.log ++ [.don m.tx m.yes] } m.tx m.yes s.log.length) { msg0 with kind := 5, to := m.frm, tx := m.tx }
  match getM s.pend m.tx with
  | some _ => fin
  | none =>
    match getM s.done m.tx with
    | some d => if d.pl < s.good then sendP s { msg0 with kind := 5, to := m.frm, tx := m.tx } else s
    | none => if m.yes then s else fin
def takeP (s : ShP) (m : MsgR) : ShP :=
  if m.kind = 1 then beginP s m else if m.kind = 2 then prepareP s m else if m.kind = 3 then voteP s m else if m.kind = 4 then decideP s m else if m.kind = 5 then ackP s m else if m.kind = 6 then askP s m else s
def syncP (s : ShP) : ShP := { s with good := s.log.length, out := s.out ++ s.waits, waits := [] }
def againP (s : ShP) (tx : Int) : ShP :=
  match getM s.und tx with
  | none => s
  | some u =>
    alarmP (eachP s u.ops fun z k p =>
      if !u.dec && !(getM u.votes k).isSome then sendP z { msg0 with kind := 2, to := k, tx := tx, ops := p }
      else if u.dec && decide (((getM s.decd tx).map (·.pl)).getD 0 < s.good) && decide ((getM u.acks k).getD 0 = 0) then sendP z { msg0 with kind := 4, to := k, tx := tx, yes := u.yes }
      else z) tx 4 true
def offP (s : ShP) (t : TimR) : ShP :=
  if t.again then againP s t.tx else
  match getM s.pend t.tx with
  | some p => alarmP (sendP s { msg0 with kind := 6, to := p.home, tx := t.tx }) t.tx 3 false
  | none => s
def tickPGo : Nat → ShP → ShP
  | 0, s => s
  | f + 1, s =>
    match dueR s.clock s.timers 0 none with
    | none => s
    | some (k, t) => tickPGo f (offP { s with timers := s.timers.eraseIdx k } t)
def dueNP (s : ShP) : Nat := (s.timers.filter fun t => t.tm ≤ s.clock).length
def tickP (s : ShP) : ShP := let s1 := { s with clock := s.clock + 1 }; tickPGo (dueNP s1 + 1) s1
def freshP (s : ShP) : ShP := { s with values := [], locks := [], pend := [], done := [], decd := [], und := [], timers := [], clock := 0, waits := [] }
def crashP (s : ShP) (keep : Int) : ShP :=
  let good := s.good + min (max keep 0) ((s.log.length : Int) - s.good)
  freshP { s with up := false, good := good, log := s.log.take good.toNat }
def replayP1 (s : ShP) (i : Nat) : EntP → ShP
  | .prep tx home ops => holdP s tx home ops i
  | .dec tx yes _ => { s with decd := setM s.decd tx ⟨i, yes⟩ }
  | .don tx yes => finishP s tx yes i
def replayP (log : List EntP) : Nat → ShP → ShP
  | 0, s => s
  | i + 1, s => match log[i]? with | none => replayP log i s | some e => replayP1 (replayP log i s) i e
def sortedTx (l : List Int) : List Int := l.mergeSort (fun a b => decide (a ≤ b))
def restartP (s : ShP) : ShP :=
  let s1 := replayP s.log s.log.length (freshP { s with up := true })
  (sortedTx (s1.pend.map (·.1))).foldl (fun z tx => alarmP z tx 3 false) s1
def valuesP (s : ShP) : List (Int × Int) := s.values.filter fun p => p.2 != 0
def newShP (k n : Int) : ShP := freshP ⟨k, n, true, [], 0, [], [], [], [], [], [], [], 0, [], []⟩
end Go.Sl
end
section
set_option linter.unusedVariables false
namespace Go.Sl
open Go.Proofs
def badT : Bad := ⟨fun _ t _ => t == 92 || t == 114 || t == 23 || t == 120, fun t _ => t == 92 || t == 114 || t == 23 || t == 120, 0⟩
def i64L (n : Int) : List Value := [.int .i64 n]
instance : RowF i64L 1 := ⟨fun _ => rfl, fun a v h => by simp [i64L] at h; subst h; rfl⟩
def opRC (o : OpR) : List Value := [.bool o.w, .int .i64 o.k, .int .i64 o.v]
instance : RowF opRC 3 := ⟨fun _ => rfl, fun a v h => by simp [opRC] at h; rcases h with h | h | h <;> subst h <;> rfl⟩
def OpsB (l : List OpR) : Prop := (∀ o ∈ l, 97 ≤ o.k ∧ o.k ≤ 122) ∧ l.length < 2 ^ 20
structure MsgV extends MsgR where
  so : SliceV
  sr : SliceV
def msgC (m : MsgV) : List Value := [.int .i64 m.kind, .int .i64 m.frm, .int .i64 m.to, .int .i64 m.tx, .bool m.yes, m.so.v, m.sr.v]
instance : RowF msgC 7 := ⟨fun _ => rfl, fun a v h => by simp [msgC] at h; rcases h with h | h | h | h | h | h | h <;> subst h <;> rfl⟩
structure RecV extends RecR where
  so : SliceV
  sr : SliceV
def recC (m : RecV) : List Value := [.int .i64 m.kind, .int .i64 m.tx, .bool m.yes, .int .i64 m.home, m.so.v, m.sr.v]
instance : RowF recC 6 := ⟨fun _ => rfl, fun a v h => by simp [recC] at h; rcases h with h | h | h | h | h | h <;> subst h <;> rfl⟩
structure VotV extends VoteR where
  sr : SliceV
def votC (m : VotV) : List Value := [.int .i64 m.frm, m.sr.v]
instance : RowF votC 2 := ⟨fun _ => rfl, fun a v h => by simp [votC] at h; rcases h with h | h <;> subst h <;> rfl⟩
structure UndV where
  tx : Int
  ops : List OpR
  so : SliceV
  votes : List VotV
  sv : SliceV
  dec : Bool
  yes : Bool
  acks : List Int
  sa : SliceV
def UndV.abs (u : UndV) : UndR := ⟨u.tx, u.ops, u.votes.map (·.toVoteR), u.dec, u.yes, u.acks⟩
def undC (u : UndV) : List Value := [.int .i64 u.tx, u.so.v, u.sv.v, .bool u.dec, .bool u.yes, u.sa.v]
instance : RowF undC 6 := ⟨fun _ => rfl, fun a v h => by simp [undC] at h; rcases h with h | h | h | h | h | h <;> subst h <;> rfl⟩
def timC (t : TimR) : List Value := [.int .i64 t.tm, .bool t.again, .int .i64 t.tx]
instance : RowF timC 3 := ⟨fun _ => rfl, fun a v h => by simp [timC] at h; rcases h with h | h | h <;> subst h <;> rfl⟩
def heldC (t : HeldR) : List Value := [.int .i64 t.key, .int .i64 t.tx]
instance : RowF heldC 2 := ⟨fun _ => rfl, fun a v h => by simp [heldC] at h; rcases h with h | h <;> subst h <;> rfl⟩
structure ShV where
  me : Int
  n : Int
  up : Bool
  log : List RecV
  good : Int
  vals : List Int
  locks : List HeldR
  under : List UndV
  timers : List TimR
  waits : List MsgV
  clock : Int
  out : List MsgV
def ShV.abs (s : ShV) : ShR := ⟨s.me, s.n, s.up, s.log.map (·.toRecR), s.good, s.vals, s.locks, s.under.map (·.abs), s.timers, s.waits.map (·.toMsgR), s.clock, s.out.map (·.toMsgR)⟩
structure ShS where
  log : SliceV
  vals : SliceV
  locks : SliceV
  under : SliceV
  timers : SliceV
  waits : SliceV
  out : SliceV
def shC (s : ShV) (a : ShS) : Array Value := #[.int .i64 s.me, .int .i64 s.n, .bool s.up, a.log.v, .int .i64 s.good, a.vals.v, a.locks.v, a.under.v, a.timers.v, a.waits.v, .int .i64 s.clock, a.out.v]
def undP (u : UndV) : HP := all [slP votC 2 290 u.sv u.votes, slP i64L 1 3 u.sa u.acks]
def shL (s : ShV) (a : ShS) : List HP := [slP recC 6 247 a.log s.log, slP i64L 1 3 a.vals s.vals, slP heldC 2 258 a.locks s.locks, slP undC 6 287 a.under s.under, all (s.under.map undP),
  slP timC 3 251 a.timers s.timers, slP msgC 7 137 a.waits s.waits, slP msgC 7 137 a.out s.out]
def shP (b : Nat) (s : ShV) : HP := fun h => ∃ a, all (pts b (.cells (shC s a) 61 (0, 0)) :: shL s a) h
structure MsgI (I : HL) (m : MsgV) : Prop where
  o : imSl I opRC 63 m.so m.ops
  r : imSl I i64L 3 m.sr m.reads
structure RecI (I : HL) (m : RecV) : Prop where
  o : imSl I opRC 63 m.so m.ops
  r : imSl I i64L 3 m.sr m.reads
structure UndI (I : HL) (u : UndV) : Prop where
  o : imSl I opRC 63 u.so u.ops
  r : ∀ v ∈ u.votes, imSl I i64L 3 v.sr v.reads
structure ShI (I : HL) (s : ShV) : Prop where
  log : ∀ r ∈ s.log, RecI I r
  und : ∀ u ∈ s.under, UndI I u
  waits : ∀ m ∈ s.waits, MsgI I m
  out : ∀ m ∈ s.out, MsgI I m
theorem MsgI.mono {I I' : HL} {m : MsgV} (hs : Sub I I') (h : MsgI I m) : MsgI I' m := ⟨h.o.mono hs, h.r.mono hs⟩
theorem RecI.mono {I I' : HL} {m : RecV} (hs : Sub I I') (h : RecI I m) : RecI I' m := ⟨h.o.mono hs, h.r.mono hs⟩
theorem UndI.mono {I I' : HL} {m : UndV} (hs : Sub I I') (h : UndI I m) : UndI I' m := ⟨h.o.mono hs, fun v hv => (h.r v hv).mono hs⟩
theorem ShI.mono {I I' : HL} {s : ShV} (hs : Sub I I') (h : ShI I s) : ShI I' s := ⟨fun r hr => (h.log r hr).mono hs, fun u hu => (h.und u hu).mono hs, fun r hr => (h.waits r hr).mono hs, fun r hr => (h.out r hr).mono hs⟩
abbrev shO (b : Nat) (s : ShV) (lg vl lk un tm wt ot : SliceV) (F : List HP) : List HP := pts b (.cells #[.int .i64 s.me, .int .i64 s.n, .bool s.up, lg.v, .int .i64 s.good, vl.v, lk.v, un.v, tm.v, wt.v, .int .i64 s.clock, ot.v] 61 (0, 0)) ::
    slP recC 6 247 lg s.log :: slP i64L 1 3 vl s.vals :: slP heldC 2 258 lk s.locks :: slP undC 6 287 un s.under :: all (s.under.map undP) ::
    slP timC 3 251 tm s.timers :: slP msgC 7 137 wt s.waits :: slP msgC 7 137 ot s.out :: F
section
variable {R : Nat → Goroutine → Array Obj → Prop} {d : Nat} {As F L : List HP} {g : Goroutine} {b : Nat} {s : ShV}
theorem nilU (h : At R d (all (([] : List UndV).map undP) :: F) g) : At R d F g := At.nilA h
theorem shP.opn (hf : Fo (shP b s) As L := by repeat (first | with_reducible exact Fo.head | with_reducible apply Fo.tail)) (h : ∀ lg vl lk un tm wt ot : SliceV, At R d (shO b s lg vl lk un tm wt ot L) g) : At R d As g := by
  refine At.fo hf fun H st => ?_
  obtain ⟨a, st⟩ := st.ex
  exact h a.log a.vals a.locks a.under a.timers a.waits a.out H (st.flat)
theorem shP.cls {c : Array Value} (s : ShV) (h : At R d (shP b s :: F) g) (hf : Fo (pts b (.cells c 61 (0, 0))) As L := by repeat (first | with_reducible exact Fo.head | with_reducible apply Fo.tail)) {lg vl lk un tm wt ot : SliceV} (hc : c = shC s ⟨lg, vl, lk, un, tm, wt, ot⟩ := by rfl)
    (hr : ReF [slP recC 6 247 lg s.log, slP i64L 1 3 vl s.vals, slP heldC 2 258 lk s.locks, slP undC 6 287 un s.under, all (s.under.map undP),
      slP timC 3 251 tm s.timers, slP msgC 7 137 wt s.waits, slP msgC 7 137 ot s.out] L F := by repeat (first | with_reducible exact ReF.nil | with_reducible exact Fo.head | with_reducible apply Fo.tail | with_reducible apply ReF.cons)) : At R d As g := by
  subst hc
  refine At.perm (hf.perm.trans (hr.perm.cons _)) fun H st => h H ?_
  exact Sat.imp (fun hh x => ⟨⟨lg, vl, lk, un, tm, wt, ot⟩, x⟩) (Sat.unflat (l := pts b (.cells (shC s ⟨lg, vl, lk, un, tm, wt, ot⟩) 61 (0, 0)) :: shL s ⟨lg, vl, lk, un, tm, wt, ot⟩) st)
end
end Go.Sl
end
section
namespace Go.Sl
structure AlV where
  tm : Int
  ord : Int
  tx : Int
  again : Bool
instance : Inhabited AlV := ⟨⟨0, 0, 0, false⟩⟩
def AlV.tim (a : AlV) : TimR := ⟨a.tm, a.again, a.tx⟩
def alLt (a b : AlV) : Prop := a.tm < b.tm ∨ (a.tm = b.tm ∧ a.ord < b.ord)
instance (a b : AlV) : Decidable (alLt a b) := by unfold alLt; infer_instance
abbrev gA (l : List AlV) (k : Nat) : AlV := l[k]?.getD default
theorem gA_get {l : List AlV} {k : Nat} (h : k < l.length) : gA l k = l[k] := by simp [gA, h]
def swA (l : List AlV) (i j : Nat) : List AlV := (l.set i (gA l j)).set j (gA l i)
theorem swA_len (l : List AlV) (i j : Nat) : (swA l i j).length = l.length := by simp [swA]
theorem swA_perm {l : List AlV} {i j : Nat} (hi : i < l.length) (hj : j < l.length) : (swA l i j).Perm l := by
  unfold swA; rw [gA_get hi, gA_get hj]; exact List.set_set_perm hi hj
theorem swA_get {l : List AlV} {i j : Nat} (hi : i < l.length) (hj : j < l.length) (k : Nat) : gA (swA l i j) k = if k = j then gA l i else if k = i then gA l j else gA l k := by
  unfold gA swA
  rw [List.getElem?_set]
  by_cases h1 : j = k
  · subst h1; simp [hj]
  · rw [if_neg h1, if_neg (Ne.symm h1), List.getElem?_set]
    by_cases h2 : i = k
    · subst h2; simp [hi]
    · rw [if_neg h2, if_neg (Ne.symm h2)]
def nlt (l : List AlV) (i j : Nat) : Prop := ¬ alLt (gA l i) (gA l j)
def HeapAt (l : List AlV) (n : Nat) : Prop := ∀ k, 0 < k → k < n → nlt l k ((k - 1) / 2)
def HeapUp (l : List AlV) (j : Nat) : Prop := (∀ k, 0 < k → k < l.length → k ≠ j → nlt l k ((k - 1) / 2)) ∧ (0 < j → ∀ k, 0 < k → k < l.length → (k - 1) / 2 = j → nlt l k ((j - 1) / 2))
def HeapDn (l : List AlV) (n i : Nat) : Prop := (∀ k, 0 < k → k < n → (k - 1) / 2 ≠ i → nlt l k ((k - 1) / 2)) ∧ (0 < i → ∀ k, 0 < k → k < n → (k - 1) / 2 = i → nlt l k ((i - 1) / 2))
theorem HeapUp.fin {l : List AlV} {j : Nat} (h : HeapUp l j) (hj : j = (j - 1) / 2 ∨ nlt l j ((j - 1) / 2)) : HeapAt l l.length := fun k h0 hk => by
  by_cases e : k = j
  · subst e
    rcases hj with hj | hj
    · omega
    · exact hj
  · exact h.1 k h0 hk e
theorem HeapUp.push {l : List AlV} (h : HeapAt l l.length) (a : AlV) : HeapUp (l ++ [a]) l.length := by
  have hg : ∀ k, k < l.length → gA (l ++ [a]) k = gA l k := fun k hk => by unfold gA; rw [List.getElem?_append_left hk]
  refine ⟨fun k h0 hk hne => ?_, fun h0 k h1 hk e => ?_⟩
  · have hk : k < l.length := by simp at hk; omega
    unfold nlt
    rw [hg k hk, hg _ (by omega)]
    exact h k h0 hk
  · simp at hk; omega
theorem HeapUp.step {l : List AlV} {i j : Nat} (h : HeapUp l j) (hj : j < l.length) (hi : i = (j - 1) / 2) (hne : i ≠ j) (hl : alLt (gA l j) (gA l i)) : HeapUp (swA l i j) i := by
  have hij : i < j := by omega
  have hil : i < l.length := by omega
  have hs := swA_get hil hj
  refine ⟨fun k h0 hk hki => ?_, fun h0 k h1 hk e => ?_⟩
  · rw [swA_len] at hk
    unfold nlt
    rw [hs, hs, if_neg hki]
    by_cases e1 : k = j
    · subst e1
      rw [if_pos rfl, ← hi, if_neg hne, if_pos rfl]
      unfold alLt at hl ⊢; omega
    · rw [if_neg e1]
      by_cases e2 : (k - 1) / 2 = j
      · rw [if_pos e2]
        have := h.2 (by omega) k h0 hk e2
        rw [← hi] at this; exact this
      · rw [if_neg e2]
        by_cases e3 : (k - 1) / 2 = i
        · rw [if_pos e3]
          have := h.1 k h0 hk e1
          rw [e3] at this
          unfold nlt alLt at this
          unfold alLt at hl ⊢; omega
        · rw [if_neg e3]; exact h.1 k h0 hk e1
  · rw [swA_len] at hk
    unfold nlt
    have e4 : (i - 1) / 2 < i := by omega
    rw [hs, hs, if_neg (show (i - 1) / 2 ≠ j by omega), if_neg (show (i - 1) / 2 ≠ i by omega)]
    have h2 := h.1 i h0 hil hne
    unfold nlt at h2
    by_cases e1 : k = j
    · rw [if_pos e1]; exact h2
    · rw [if_neg e1, if_neg (show k ≠ i by omega)]
      have h3 := h.1 k h1 hk e1
      rw [e] at h3
      unfold nlt alLt at h3
      unfold alLt at h2 ⊢; omega
theorem HeapDn.fin {l : List AlV} {n i : Nat} (h : HeapDn l n i) (hc : ∀ k, 0 < k → k < n → (k - 1) / 2 = i → nlt l k i) : HeapAt l n := fun k h0 hk => by
  by_cases e : (k - 1) / 2 = i
  · rw [e]; exact hc k h0 hk e
  · exact h.1 k h0 hk e
theorem HeapDn.step {l : List AlV} {n i j : Nat} (h : HeapDn l n i) (hn : n ≤ l.length) (hj : j < n) (h0j : 0 < j) (hi : i = (j - 1) / 2) (hmin : ∀ k, 0 < k → k < n → (k - 1) / 2 = i → nlt l k j) (hl : alLt (gA l j) (gA l i)) : HeapDn (swA l i j) n j := by
  have hij : i < j := by omega
  have hil : i < l.length := by omega
  have hjl : j < l.length := by omega
  have hs := swA_get hil hjl
  refine ⟨fun k h0 hk hkj => ?_, fun h0 k h1 hk e => ?_⟩
  · unfold nlt
    rw [hs, hs, if_neg hkj]
    by_cases e1 : k = j
    · subst e1
      rw [if_pos rfl, ← hi, if_pos rfl]
      unfold alLt at hl ⊢; omega
    · rw [if_neg e1]
      by_cases e2 : k = i
      · subst e2
        rw [if_pos rfl, if_neg (show (k - 1) / 2 ≠ k by omega)]
        have := h.2 h0 j h0j hj hi.symm
        exact this
      · rw [if_neg e2]
        by_cases e3 : (k - 1) / 2 = i
        · rw [if_pos e3]; exact hmin k h0 hk e3
        · rw [if_neg e3]; exact h.1 k h0 hk e3
  · unfold nlt
    rw [hs, hs, if_neg (show k ≠ j by omega), if_neg (show k ≠ i by omega), ← hi, if_neg (show i ≠ j by omega), if_pos rfl]
    have := h.1 k h1 hk (by omega)
    rw [e] at this; exact this
theorem HeapAt.least {l : List AlV} {n : Nat} (h : HeapAt l n) : ∀ k, k < n → nlt l k 0 := by
  intro k
  induction k using Nat.strongRecOn with
  | ind k ih =>
    intro hk
    by_cases h0 : k = 0
    · subst h0; unfold nlt alLt; omega
    · have h1 := h k (by omega) hk
      have h2 := ih ((k - 1) / 2) (by omega) (by omega)
      unfold nlt alLt at h1 h2 ⊢; omega
theorem HeapAt.out {l : List AlV} {n : Nat} (h : HeapAt l (n + 1)) (hn : n < l.length) : HeapDn (swA l 0 n) n 0 := by
  have hs := swA_get (l := l) (i := 0) (j := n) (by omega) hn
  refine ⟨fun k h0 hk hp => ?_, fun h0 => by omega⟩
  unfold nlt
  rw [hs, hs, if_neg (show k ≠ n by omega), if_neg (show k ≠ 0 by omega), if_neg (show (k - 1) / 2 ≠ n by omega), if_neg hp]
  exact h k h0 (by omega)
theorem HeapAt.take {l : List AlV} {n : Nat} (h : HeapAt l n) : HeapAt (l.take n) n := fun k h0 hk => by
  have hg : ∀ q, q < n → gA (l.take n) q = gA l q := fun q hq => by unfold gA; rw [List.getElem?_take_of_lt hq]
  unfold nlt; rw [hg k hk, hg _ (by omega)]; exact h k h0 hk
theorem dueR_keep {c : Int} {m : TimR} {q : Nat} : ∀ (L : List TimR) (i : Nat), (∀ t ∈ L, m.tm ≤ t.tm) → dueR c L i (some (q, m)) = some (q, m)
  | [], _, _ => rfl
  | t :: l, i, h => by
    have h1 := h t (List.mem_cons_self ..)
    have : decide (t.tm < m.tm) = false := by simp; omega
    simp only [dueR, this, Bool.and_false, Bool.false_eq_true, if_false]
    exact dueR_keep l _ fun t ht => h t (List.mem_cons_of_mem _ ht)
def dueB (c : Int) (t : TimR) (acc : Option (Nat × TimR)) : Bool := decide (t.tm ≤ c) && (match acc with | none => true | some (_, u) => decide (t.tm < u.tm))
theorem dueR_cons (c : Int) (t : TimR) (l : List TimR) (i : Nat) (acc : Option (Nat × TimR)) : dueR c (t :: l) i acc = dueR c l (i + 1) (if dueB c t acc then some (i, t) else acc) := rfl
theorem dueR_least {c : Int} {m : TimR} (hm : m.tm ≤ c) : ∀ (L : List TimR) (k i : Nat) (acc : Option (Nat × TimR)), L[k]? = some m → (∀ t ∈ L, m.tm ≤ t.tm) → (∀ j t, j < k → L[j]? = some t → m.tm < t.tm) → (∀ q u, acc = some (q, u) → m.tm < u.tm) → dueR c L i acc = some (i + k, m)
  | [], k, i, acc, h, _, _, _ => by simp at h
  | t :: l, 0, i, acc, h, hall, hlt, hacc => by
    obtain rfl : t = m := by simpa using h
    have : dueB c t acc = true := by
      unfold dueB
      cases acc with
      | none => simp [hm]
      | some p => obtain ⟨q, u⟩ := p; have := hacc q u rfl; simp [hm, this]
    rw [dueR_cons, if_pos this]
    exact dueR_keep l _ fun t' ht => hall t' (List.mem_cons_of_mem _ ht)
  | t :: l, k + 1, i, acc, h, hall, hlt, hacc => by
    have ht := hlt 0 t (by omega) rfl
    rw [dueR_cons, show i + (k + 1) = i + 1 + k by omega]
    refine dueR_least hm l k (i + 1) _ (by simpa using h) (fun t' ht' => hall t' (List.mem_cons_of_mem _ ht')) (fun j t' hj hl => hlt (j + 1) t' (by omega) (by simpa using hl)) fun q u e => ?_
    by_cases hq : dueB c t acc = true
    · rw [if_pos hq] at e; cases e; exact ht
    · rw [if_neg hq] at e; exact hacc q u e
theorem dueR_none {c : Int} : ∀ (L : List TimR) (i : Nat), (∀ t ∈ L, c < t.tm) → dueR c L i none = none
  | [], _, _ => rfl
  | t :: l, i, h => by
    have h1 := h t (List.mem_cons_self ..)
    have : decide (t.tm ≤ c) = false := by simp; omega
    simp only [dueR, this, Bool.false_and, Bool.false_eq_true, if_false]
    exact dueR_none l _ fun t ht => h t (List.mem_cons_of_mem _ ht)
structure TimJ (T : List AlV) (order : Int) (l : List AlV) : Prop where
  perm : l.Perm T
  heap : HeapAt l l.length
  inc : T.Pairwise fun a b => a.ord < b.ord
  le : ∀ a ∈ T, a.ord ≤ order
theorem TimJ.zero (order : Int) : TimJ [] order [] := ⟨.refl _, fun k h0 hk => by simp at hk, .nil, fun a h => by cases h⟩
theorem TimJ.push {T l l' : List AlV} {order : Int} (h : TimJ T order l) {a : AlV} (ha : a.ord = order + 1) (hp : l'.Perm (l ++ [a])) (hh : HeapAt l' l'.length) : TimJ (T ++ [a]) (order + 1) l' :=
  ⟨hp.trans (h.perm.append_right _), hh, List.pairwise_append.2 ⟨h.inc, by simp, fun x hx y hy => by obtain rfl := List.mem_singleton.1 hy; have := h.le x hx; omega⟩, fun x hx => by
    rcases List.mem_append.1 hx with hx | hx
    · have := h.le x hx; omega
    · obtain rfl := List.mem_singleton.1 hx; omega⟩
theorem TimJ.due0 {T l : List AlV} {order c : Int} (h : TimJ T order l) (hl : l = [] ∨ c < (gA l 0).tm) : dueR c (T.map (·.tim)) 0 none = none := by
  refine dueR_none _ _ fun t ht => ?_
  obtain ⟨a, ha, rfl⟩ := List.mem_map.1 ht
  have ha := h.perm.mem_iff.2 ha
  rcases hl with rfl | hl
  · cases ha
  · obtain ⟨k, hk, rfl⟩ := List.mem_iff_getElem.1 ha
    have := h.heap.least k hk
    unfold nlt alLt at this
    rw [gA_get hk] at this
    show c < l[k].tm
    omega
theorem TimJ.pop {T l l' : List AlV} {order c : Int} {m : AlV} (h : TimJ T order l) (h0 : l[0]? = some m) (hc : m.tm ≤ c) (hp : l.Perm (m :: l')) (hh : HeapAt l' l'.length) :
    ∃ k, T[k]? = some m ∧ dueR c (T.map (·.tim)) 0 none = some (k, m.tim) ∧ TimJ (T.eraseIdx k) order l' := by
  have hm : m ∈ T := h.perm.mem_iff.1 (List.mem_of_getElem? h0)
  obtain ⟨k, hk, rfl⟩ := List.mem_iff_getElem.1 hm
  have hmin : ∀ a ∈ T, ¬ alLt a T[k] := fun a ha => by
    obtain ⟨q, hq, rfl⟩ := List.mem_iff_getElem.1 (h.perm.mem_iff.2 ha)
    have := h.heap.least q hq
    unfold nlt at this
    rw [gA_get hq] at this
    have e : gA l 0 = T[k] := by unfold gA; rw [h0]; rfl
    rwa [e] at this
  refine ⟨k, List.getElem?_eq_getElem hk, ?_, ?_⟩
  · have := dueR_least (c := c) (m := T[k].tim) hc (T.map (·.tim)) k 0 none (by simp [hk]) (fun t ht => by
      obtain ⟨a, ha, rfl⟩ := List.mem_map.1 ht
      have := hmin a ha
      unfold alLt at this
      show T[k].tm ≤ a.tm
      omega) (fun j t hj ht => by
      rw [List.getElem?_map] at ht
      have hjl : j < T.length := by omega
      rw [List.getElem?_eq_getElem hjl] at ht
      obtain rfl := Option.some.inj ht
      have h1 := hmin T[j] (List.getElem_mem _)
      have h2 : T[j].ord < T[k].ord := List.pairwise_iff_getElem.1 h.inc j k hjl hk hj
      unfold alLt at h1
      show T[k].tm < T[j].tm
      omega) (fun q u e => by cases e)
    simpa using this
  · have hpT : T.Perm (T[k] :: T.eraseIdx k) := by
      have e1 : T = T.take k ++ T[k] :: T.drop (k + 1) := by
        conv => lhs; rw [← List.take_append_drop k T, List.drop_eq_getElem_cons hk]
      rw [List.eraseIdx_eq_take_drop_succ]
      conv => lhs; rw [e1]
      exact List.perm_middle
    refine ⟨?_, hh, h.inc.sublist (List.eraseIdx_sublist _ _), fun a ha => h.le a (List.mem_of_mem_eraseIdx ha)⟩
    exact (List.perm_cons T[k]).1 (hp.symm.trans (h.perm.trans hpT))
end Go.Sl
end
section
set_option linter.unusedVariables false
namespace Go.Sl
open Go.Conc
section
variable {P : Program} {main : Bool} {s : SeatD} {fn : FuncId} {kd : Kd} {n : Nat} {e : Nat → Value} {ds : List Deferred} {k : List Item} {cs : List Frame}
variable {ops : Array Oper} {i : Nat} {rest : List Nat} {t : Nat} {ty : TypeId} {pos : String} {af : Array Edge} {gd : Option (Nat × Bool)} {x : Operand} {v : Value} {m : Nat}
theorem wayOp {o : Oper} (ho : nthO ops i = some o) (hw : wantB ops n e o.guard = true) (hy : ev0 P (execOp (ev n e) o) = some (.value v)) (q : Way P main s m (gr fn kd n (putO e o.dst v) ds (.inRegion ops rest :: k) cs)) : Way P main s (m + 1) (gr fn kd n e ds (.inRegion ops (i :: rest) :: k) cs) :=
  .inr ⟨rfl, fun w _ => ⟨_, #[], w.drawn, stepG_val ho hw hy w, by simp, q⟩⟩
theorem wayMv (ho : nthO ops i = some ⟨some t, .move x, ty, pos, af, gd⟩) (q : Way P main s m (gr fn kd n (put e t v) ds (.inRegion ops rest :: k) cs)) (hx : ev n e x = v := by conv => { lhs; whnf }) (hw : wantB ops n e gd = true := by rfl) : Way P main s (m + 1) (gr fn kd n e ds (.inRegion ops (i :: rest) :: k) cs) :=
  wayOp ho hw (by unfold execOp; simp only [hx]; rfl) q
theorem wayNc {a : Addr} (ho : nthO ops i = some ⟨some t, .nilCheck x, ty, pos, af, gd⟩) (q : Way P main s m (gr fn kd n (put e t (.pointer (some a))) ds (.inRegion ops rest :: k) cs)) (hx : ev n e x = .pointer (some a) := by rfl) (hw : wantB ops n e gd = true := by rfl) : Way P main s (m + 1) (gr fn kd n e ds (.inRegion ops (i :: rest) :: k) cs) :=
  wayOp ho hw (by unfold execOp; simp only [hx]; rfl) q
theorem wayFa {s' f o b off : Nat} [c : Fl P s' f o] (ho : nthO ops i = some ⟨some t, .fieldAddr s' x f, ty, pos, af, gd⟩) (q : Way P main s m (gr fn kd n (put e t (.pointer (some ⟨b, off + o, none⟩))) ds (.inRegion ops rest :: k) cs)) (hx : ev n e x = .pointer (some ⟨b, off, none⟩) := by rfl) (hw : wantB ops n e gd = true := by rfl) : Way P main s (m + 1) (gr fn kd n e ds (.inRegion ops (i :: rest) :: k) cs) :=
  wayOp ho hw (by
    obtain ⟨fs, fl, z, h1, h2, rfl, ⟨inf, h4, h5⟩, h6⟩ := c.h
    unfold execOp; simp only [hx, Instr.fieldAt]
    refine ev0_do (a := .pointer (some ⟨b, off + fl.offset, none⟩)) (ev0_do (ev0_und h1) ?_) rfl
    simp only [h2, Instr.sureAddr]
    refine ev0_do (a := (⟨b, off, none⟩ : Addr)) rfl ?_
    unfold fieldPlace
    refine ev0_do (a := ⟨b, off + fl.offset, none⟩) ?_ rfl
    refine ev0_do (ev0_size ⟨inf, h4, h5⟩) ?_
    rw [if_neg h6, add_of]; rfl) q
theorem wayLd {tt : TypeId} {ad : Addr} [a : Ag P tt false] (hm : (ad, v) ∈ s.mem) (ho : nthO ops i = some ⟨some t, .load tt x, ty, pos, af, gd⟩) (q : Way P main s m (gr fn kd n (put e t v) ds (.inRegion ops rest :: k) cs)) (hx : ev n e x = .pointer (some ad) := by rfl) (hw : wantB ops n e gd = true := by rfl) : Way P main s (m + 1) (gr fn kd n e ds (.inRegion ops (i :: rest) :: k) cs) := by
  refine .inr ⟨rfl, fun w hK => ⟨_, _, w.drawn, stepG_ld ho hw hx (hK _ hm), fun e he => ?_, q⟩⟩
  have := seen_mem he
  simp only [List.mem_toArray, List.mem_cons, List.not_mem_nil, or_false] at this
  exact ⟨ad, this, (ad, v), hm, rfl⟩
end
structure EnvSt (ops : Array Oper) (e0 : Nat → Value) (D : List (Nat × Nat)) (S : List SE) (L : Nat → Prop) (e : Nat → Value) : Prop where
  v1 : ∀ x ∈ S, L x.i → e x.t = x.v
  v2 : ∀ s, lkD D s = none → e s = e0 s
  v3 : ∀ s w, lkD D s = some w → ¬ L w → e s = e0 s
  cl : ∀ w, L w → ∀ j ∈ aft ops w, L j
section
variable {P : Program} {main : Bool} {s : SeatD} {fn : FuncId} {kd : Kd} {n : Nat} {ds : List Deferred} {ops : Array Oper} {k : List Item} {cs : List Frame} {e0 : Nat → Value} {D : List (Nat × Nat)} {T is : List Nat} {S : List SE}
theorem EnvSt.env {L : Nat → Prop} {e : Nat → Value} (h : EnvSt ops e0 D S L e) {i : Nat} (hi : ¬ L i) (hr : ∀ j ∈ aft ops i, L j) {S' : List SE} (hS : ∀ x ∈ S', x ∈ S) : envD e0 D ops i S' e = e := by
  funext s
  unfold envD
  cases h1 : lkS S' (aft ops i) s with
  | some v =>
    obtain ⟨x, hx, rfl, rfl, hp⟩ := lkS_mem h1
    exact (h.v1 x (hS x hx) (hr _ hp)).symm
  | none =>
    simp only
    cases h2 : lkD D s with
    | none => exact (h.v2 s h2).symm
    | some w =>
      simp only
      split
      · rename_i hc
        have hiw : i ∈ aft ops w := by simpa using hc
        exact (h.v3 s w h2 fun hl => hi (h.cl w hl i hiw)).symm
      · rfl
structure SilW (P : Program) (main : Bool) (s : SeatD) (fn : FuncId) (kd : Kd) (n : Nat) (ds : List Deferred) (ops : Array Oper) (k : List Item) (cs : List Frame) (e0 : Nat → Value) (D : List (Nat × Nat)) (is : List Nat) (S : List SE) : Prop where
  all : ∀ i ∈ is, ∃ x ∈ S, x.i = i
  sub : ∀ x ∈ S, x.i ∈ is
  uq : ∀ x ∈ S, ∀ y ∈ S, x.i = y.i → x = y
  lk : ∀ x ∈ S, dstOf ops x.i = some x.t
  ob : ∀ x ∈ S, ∃ Sx, (∀ y ∈ Sx, y ∈ S) ∧ ∀ m e rest, Way P main s m (gr fn kd n (put (envD e0 D ops x.i Sx e) x.t x.v) ds (.inRegion ops rest :: k) cs) → Way P main s (m + 1) (gr fn kd n (envD e0 D ops x.i Sx e) ds (.inRegion ops (x.i :: rest) :: k) cs)
def lsT (listed : Array Bool) (i : Nat) : Prop := listed[i]?.getD false = true
def Stood (ops : Array Oper) (e0 : Nat → Value) (D : List (Nat × Nat)) (S : List SE) (r : Nat) (e : Nat → Value) (rest : List Nat) : Prop :=
  ∃ md fuel t, ∃ listed : Array Bool, listed.size = ops.size ∧ unl (fun i => listed[i]?.getD false) ops.size = fuel + 1 ∧ EnvSt ops e0 D S (lsT listed) e ∧ ¬ lsT listed r ∧ (∀ j ∈ aft ops r, lsT listed j) ∧ rest = Region.linearise.go md ops fuel t (listed.setIfInBounds r true) []
theorem way_run {md : Region.Mode} (rg : RegOk ops D T is) (sw : SilW P main s fn kd n ds ops k cs e0 D is S) {r : Nat} (hr : r ∈ T) (hT : ∀ t ∈ T, t ≠ r → reach ops 8 t r = true)
    {m0 : Nat} (hrec : ∀ e rest, Stood ops e0 D S r e rest → Way P main s m0 (gr fn kd n e ds (.inRegion ops (r :: rest) :: k) cs)) :
    ∀ (fuel t : Nat) (listed : Array Bool) (e : Nat → Value), listed.size = ops.size → unl (fun i => listed[i]?.getD false) ops.size = fuel → EnvSt ops e0 D S (lsT listed) e → ¬ lsT listed r →
      Way P main s (fuel + m0) (gr fn kd n e ds (.inRegion ops (Region.linearise.go md ops fuel t listed []) :: k) cs) := by
  intro fuel
  induction fuel with
  | zero =>
    intro t listed e hsz hu st hnr
    exact absurd (unl_zero hu r (rg.Tlt r hr)) hnr
  | succ fuel ih =>
    intro t listed e hsz hu st hnr
    have hrs : ∀ i, i ∈ ((List.range ops.size).filter fun i => !listed.getD i true && ((ops[i]?).map (·.after.all fun e => !Region.binds md e || listed.getD e.on false)).getD false) ↔ i < ops.size ∧ listed[i]?.getD false = false ∧ ∀ j ∈ aftM md ops i, listed[j]?.getD false = true := by
      intro i
      simp only [List.mem_filter, List.mem_range, Bool.and_eq_true, Bool.not_eq_true']
      constructor
      · rintro ⟨h1, h2, h3⟩
        refine ⟨h1, ?_, (aft_ready h1).1 h3⟩
        have : i < listed.size := by omega
        simpa [Array.getD_eq_getD_getElem?, this] using h2
      · rintro ⟨h1, h2, h3⟩
        refine ⟨h1, ?_, (aft_ready h1).2 h3⟩
        have : i < listed.size := by omega
        simpa [Array.getD_eq_getD_getElem?, this] using h2
    simp only [Region.linearise.go]
    generalize hG : ((List.range ops.size).filter fun i => !listed.getD i true && ((ops[i]?).map (·.after.all fun e => !Region.binds md e || listed.getD e.on false)).getD false) = rs at hrs
    obtain ⟨i1, hi1, hf1, _⟩ := exists_least (f := fun i => listed[i]?.getD false) (m := ops.size) (by rw [hu]; omega)
    obtain ⟨i0, hi0, hf0, hlow⟩ := rg.prog md (fun i => listed[i]?.getD false) ⟨i1, hi1, hf1⟩
    have hne : rs.length ≠ 0 := by
      have : i0 ∈ rs := (hrs i0).2 ⟨hi0, hf0, hlow⟩
      intro z
      rw [List.length_eq_zero_iff] at z
      rw [z] at this; cases this
    have hmod : t % rs.length < rs.length := Nat.mod_lt _ (by omega)
    rw [List.getElem?_eq_getElem hmod]
    simp only
    generalize hi' : rs[t % rs.length] = i
    have hmem : i ∈ rs := by rw [← hi']; exact List.getElem_mem hmod
    obtain ⟨hlt, hnl, hrd0⟩ := (hrs i).1 hmem
    have hrd : ∀ j ∈ aft ops i, listed[j]?.getD false = true := fun j hj => hrd0 j (aft_sub hj)
    have hacc : Region.linearise.go md ops fuel (t / rs.length) (listed.setIfInBounds i true) [i] = i :: Region.linearise.go md ops fuel (t / rs.length) (listed.setIfInBounds i true) [] := linearise_go_acc' md ops fuel (t / rs.length) (listed.setIfInBounds i true) i
    rw [hacc]
    have hsz' : (listed.setIfInBounds i true).size = ops.size := by simpa using hsz
    have hlt' : i < listed.size := by omega
    have hset := lsd_set (listed := listed) hlt'
    have hnl' : ¬ (listed[i]?.getD false = true) := by rw [hnl]; simp
    by_cases hir : i = r
    · subst hir
      exact (hrec e _ ⟨md, fuel, _, listed, hsz, hu, st, hnr, hrd, rfl⟩).mono (by omega)
    · have hu' : unl (fun j => (listed.setIfInBounds i true)[j]?.getD false) ops.size = fuel := by
        have := (unl_set (f := fun j => listed[j]?.getD false) (f' := fun j => (listed.setIfInBounds i true)[j]?.getD false) (i := i) hnl (by simp [hset]) (fun j hj => by simp [hset, hj]) (m := ops.size)).1 hlt
        rw [hu] at this
        omega
      have hL : ∀ j, ((listed.setIfInBounds i true)[j]?.getD false = true) ↔ (j = i ∨ listed[j]?.getD false = true) := fun j => by
        rw [hset]; by_cases e : j = i <;> simp [e]
      have hin : i ∈ is := by
        rcases rg.cov i hlt with h | h
        · exact h
        · exfalso
          have h1 := hT i h hir
          rcases reach_succ (f := 7) h1 with h2 | ⟨m, hm, h2⟩
          · exact hir h2
          · exact hnr (reach_closed st.cl 7 m r h2 (hrd m hm))
      obtain ⟨x, hx, rfl⟩ := sw.all i hin
      obtain ⟨Sx, hSx, ob⟩ := sw.ob x hx
      have hdst := sw.lk x hx
      have henv := st.env hnl' hrd (S' := Sx) hSx
      have key := ob (fuel + m0) e (Region.linearise.go md ops fuel (t / rs.length) (listed.setIfInBounds x.i true) [])
      rw [henv] at key
      rw [show fuel + 1 + m0 = fuel + m0 + 1 by omega]
      refine key (ih _ _ _ hsz' hu' ⟨fun y hy hLy => ?_, fun s h2 => ?_, fun s w h2 hw => ?_, fun w hw j hj => ?_⟩ fun z => ?_)
      · by_cases hyi : y.i = x.i
        · have hyx : y = x := sw.uq y hy x hx hyi
          subst hyx; simp [put]
        · have hLy' : listed[y.i]?.getD false = true := ((hL _).1 hLy).resolve_left hyi
          have hyt : y.t ≠ x.t := fun e => hyi (dst_inj rg (sw.lk y hy) (e ▸ hdst))
          simp only [put, if_neg hyt]
          exact st.v1 y hy hLy'
      · have : s ≠ x.t := fun e => by subst e; rw [rg.d2 _ _ hdst] at h2; cases h2
        simp only [put, if_neg this]; exact st.v2 s h2
      · have : s ≠ x.t := fun e => by
          subst e; rw [rg.d2 _ _ hdst] at h2
          exact hw ((hL w).2 (.inl (Option.some.inj h2).symm))
        simp only [put, if_neg this]
        exact st.v3 s w h2 fun h => hw ((hL w).2 (.inr h))
      · have hw : (listed.setIfInBounds x.i true)[w]?.getD false = true := hw
        show (listed.setIfInBounds x.i true)[j]?.getD false = true
        rw [hL] at hw ⊢
        rcases hw with rfl | hw
        · exact .inr (hrd j hj)
        · exact .inr (st.cl w hw j hj)
      · rcases (hL r).1 z with h | h
        · exact hir h.symm
        · exact hnr h
theorem unl_rep : ∀ (N m : Nat), unl (fun i => (Array.replicate N false)[i]?.getD false) m = m
  | N, 0 => rfl
  | N, m + 1 => by
    unfold unl
    rw [unl_rep N m, repl_get]; rfl
theorem way_drawnM {c : Code} (D : List (Nat × Nat)) (is T : List Nat) (r : Nat) (S : List SE) (sw : SilW P main s fn kd n ds (cO c) k cs e0 D is S) (m0 : Nat) (hrec : ∀ e rest, Stood (cO c) e0 D S r e rest → Way P main s m0 (gr fn kd n e ds (.inRegion (cO c) (r :: rest) :: k) cs))
    (hr : r ∈ T := by decide) (hT : (T.all fun t => t == r || reach (cO c) 8 t r) = true := by decide +kernel) (hc : ck c = .draw := by rfl) (hg : regOk (cO c) D T is = true := by decide +kernel) : Way P main s ((cO c).size + m0 + 1) (gr fn kd n e0 ds (.code c :: k) cs) := by
  have rg := regOk_of hg
  refine way_dr (fun t => ?_) hc
  have st : EnvSt (cO c) e0 D S (lsT (Array.replicate (cO c).size false)) e0 := ⟨fun x _ h => absurd h (by unfold lsT; rw [repl_get]; simp), fun _ _ => rfl, fun _ _ _ _ => rfl, fun w h => absurd h (by unfold lsT; rw [repl_get]; simp)⟩
  have hT' : ∀ t ∈ T, t ≠ r → reach (cO c) 8 t r = true := fun t ht hne => by
    have := List.all_eq_true.1 hT t ht
    simpa [hne] using this
  unfold Region.schedule
  split
  · unfold Region.linearise
    exact way_run rg sw hr hT' hrec _ _ _ _ (by simp) (unl_rep _ _) st (by unfold lsT; rw [repl_get]; simp)
  · unfold Region.linearise
    exact way_run rg sw hr hT' hrec _ _ _ _ (by simp) (unl_rep _ _) st (by unfold lsT; rw [repl_get]; simp)
theorem way_drawn {c : Code} (D : List (Nat × Nat)) (is T : List Nat) (r : Nat) (S : List SE) (sw : SilW P main s fn kd n ds (cO c) k cs e0 D is S) (hrec : ∀ e rest, Stood (cO c) e0 D S r e rest → AtX P main s (gr fn kd n e ds (.inRegion (cO c) (r :: rest) :: k) cs))
    (hr : r ∈ T := by decide) (hT : (T.all fun t => t == r || reach (cO c) 8 t r) = true := by decide +kernel) (hc : ck c = .draw := by rfl) (hg : regOk (cO c) D T is = true := by decide +kernel) (h40 : Nat.ble (cO c).size 39 = true := by rfl) : Way P main s 40 (gr fn kd n e0 ds (.code c :: k) cs) := by
  have h40 := Nat.le_of_ble_eq_true h40
  exact Way.mono (way_drawnM D is T r S sw 0 hrec hr hT hc hg) (by omega)
theorem Stood.rest {r : Nat} {e : Nat → Value} {rest : List Nat} (h : Stood ops e0 D S r e rest) (ha : ((List.range ops.size).all fun i => i == r || reach ops 8 r i) = true) : rest = [] := by
  obtain ⟨md, fuel, t, listed, hsz, hu, st, hnr, hrd, rfl⟩ := h
  have hl : ∀ i, i < ops.size → i ≠ r → lsT listed i := fun i hi hne => by
    have := List.all_eq_true.1 ha i (List.mem_range.2 hi)
    have h1 : reach ops 8 r i = true := by simpa [hne] using this
    rcases reach_succ (f := 7) h1 with h2 | ⟨m, hm, h2⟩
    · exact absurd h2.symm hne
    · exact reach_closed st.cl 7 m i h2 (hrd m hm)
  have h0 : unl (fun i => (listed.setIfInBounds r true)[i]?.getD false) ops.size = 0 := by
    obtain ⟨i1, hi1, hf1, _⟩ | h := Classical.em (∃ i, i < ops.size ∧ (listed.setIfInBounds r true)[i]?.getD false = false ∧ True)
    · exfalso
      have hlt : i1 < listed.size := by omega
      by_cases e : i1 = r
      · subst e; simp [hlt] at hf1
      · rw [Array.getElem?_setIfInBounds_ne (Ne.symm e)] at hf1
        have := hl i1 hi1 e
        unfold lsT at this
        rw [this] at hf1; cases hf1
    · rcases Nat.eq_zero_or_pos (unl (fun i => (listed.setIfInBounds r true)[i]?.getD false) ops.size) with h1 | h1
      · exact h1
      · obtain ⟨i1, hi1, hf1, _⟩ := exists_least (f := fun i => (listed.setIfInBounds r true)[i]?.getD false) (Nat.pos_iff_ne_zero.1 h1)
        exact absurd ⟨i1, hi1, hf1, trivial⟩ h
  by_cases hrl : r < ops.size
  · have hlt' : r < listed.size := by omega
    have hset := lsd_set (listed := listed) hlt'
    have hnl : listed[r]?.getD false = false := by
      cases e : listed[r]?.getD false with
      | false => rfl
      | true => exact absurd e hnr
    have := (unl_set (f := fun j => listed[j]?.getD false) (f' := fun j => (listed.setIfInBounds r true)[j]?.getD false) (i := r) hnl (by simp [hset]) (fun j hj => by simp [hset, hj]) (m := ops.size)).1 hrl
    have hf : fuel = 0 := by omega
    subst hf
    rfl
  · exfalso
    have : unl (fun i => listed[i]?.getD false) ops.size = 0 := by
      rcases Nat.eq_zero_or_pos (unl (fun i => listed[i]?.getD false) ops.size) with h1 | h1
      · exact h1
      · obtain ⟨i1, hi1, hf1, _⟩ := exists_least (f := fun i => listed[i]?.getD false) (Nat.pos_iff_ne_zero.1 h1)
        have h2 := hl i1 hi1 (by omega)
        unfold lsT at h2
        rw [h2] at hf1; cases hf1
    omega
theorem Stood.listed {r : Nat} {e : Nat → Value} {rest : List Nat} (h : Stood ops e0 D S r e rest) (ha : ((List.range ops.size).all fun i => i == r || reach ops 8 r i) = true) : ∃ L : Nat → Prop, EnvSt ops e0 D S L e ∧ ¬ L r ∧ ∀ i, i < ops.size → i ≠ r → L i := by
  obtain ⟨md, fuel, t, listed, hsz, hu, st, hnr, hrd, rfl⟩ := h
  refine ⟨_, st, hnr, fun i hi hne => ?_⟩
  have := List.all_eq_true.1 ha i (List.mem_range.2 hi)
  have h1 : reach ops 8 r i = true := by simpa [hne] using this
  rcases reach_succ (f := 7) h1 with h2 | ⟨m, hm, h2⟩
  · exact absurd h2.symm hne
  · exact reach_closed st.cl 7 m i h2 (hrd m hm)
theorem lkA_no : ∀ {S : List SE} {s : Nat}, (∀ x ∈ S, x.t ≠ s) → lkA S s = none
  | [], _, _ => rfl
  | x :: S, s, h => by
    unfold lkA
    rw [if_neg (h x (List.mem_cons_self ..))]
    exact lkA_no fun y hy => h y (List.mem_cons_of_mem _ hy)
theorem lkA_yes : ∀ {S : List SE} {s : Nat} {v : Value}, (∃ x ∈ S, x.t = s) → (∀ x ∈ S, x.t = s → x.v = v) → lkA S s = some v
  | [], _, _, h, _ => by obtain ⟨x, hx, _⟩ := h; cases hx
  | x :: S, s, v, h, hv => by
    unfold lkA
    by_cases e : x.t = s
    · rw [if_pos e, hv x (List.mem_cons_self ..) e]
    · rw [if_neg e]
      refine lkA_yes ?_ fun y hy => hv y (List.mem_cons_of_mem _ hy)
      obtain ⟨y, hy, ey⟩ := h
      rcases List.mem_cons.1 hy with rfl | hy
      · exact absurd ey e
      · exact ⟨y, hy, ey⟩
theorem Stood.full {r : Nat} {e : Nat → Value} {rest : List Nat} (rg : RegOk ops D T is) (hr : r ∈ T) (hT : T = [r]) (all : ∀ i ∈ is, ∃ x ∈ S, x.i = i) (sub : ∀ x ∈ S, x.i ∈ is) (uq : ∀ x ∈ S, ∀ y ∈ S, x.i = y.i → x = y) (lk : ∀ x ∈ S, dstOf ops x.i = some x.t)
    (h : Stood ops e0 D S r e rest) (ha : ((List.range ops.size).all fun i => i == r || reach ops 8 r i) = true) : e = putsS e0 S := by
  obtain ⟨L, st, hnr, hl⟩ := h.listed ha
  have hlt : ∀ x ∈ S, x.i < ops.size ∧ x.i ≠ r := fun x hx => ⟨(rg.isT x.i (sub x hx)).2, fun z => (rg.isT x.i (sub x hx)).1 (by rw [z]; exact hr)⟩
  have h0 : ∀ s, (∀ x ∈ S, x.t ≠ s) → e s = e0 s := fun s hs => by
    cases hd : lkD D s with
    | none => exact st.v2 s hd
    | some w =>
      refine st.v3 s w hd fun hw => ?_
      have hds := rg.d1 s w hd
      rcases rg.cov w (dstOf_lt hds) with h1 | h1
      · obtain ⟨x, hx, rfl⟩ := all w h1
        have := lk x hx
        rw [hds] at this
        exact hs x hx (Option.some.inj this).symm
      · rw [hT] at h1
        obtain rfl := List.mem_singleton.1 h1
        exact hnr hw
  funext s
  unfold putsS
  by_cases hs : ∃ x ∈ S, x.t = s
  · obtain ⟨x, hx, rfl⟩ := hs
    rw [lkA_yes (v := x.v) ⟨x, hx, rfl⟩ fun y hy ey => by
      have := uq y hy x hx (dst_inj rg (lk y hy) (ey ▸ lk x hx))
      rw [this]]
    exact st.v1 x hx (hl x.i (hlt x hx).1 (hlt x hx).2)
  · have hs' : ∀ x ∈ S, x.t ≠ s := fun x hx z => hs ⟨x, hx, z⟩
    rw [lkA_no hs']
    exact h0 s hs'
theorem way_drawn1 {q : Nat} {c : Code} (D : List (Nat × Nat)) (is : List Nat) (r : Nat) (S : List SE) (sw : SilW P main s fn kd n ds (cO c) k cs e0 D is S) (h : Way P main s q (gr fn kd n (putsS e0 S) ds (.inRegion (cO c) [r] :: k) cs))
    (ha : ((List.range (cO c).size).all fun i => i == r || reach (cO c) 8 r i) = true := by decide +kernel) (hc : ck c = .draw := by rfl) (hg : regOk (cO c) D [r] is = true := by decide +kernel) (h40 : Nat.ble (cO c).size 39 = true := by rfl) : Way P main s (q + 40) (gr fn kd n e0 ds (.code c :: k) cs) := by
  have h40 := Nat.le_of_ble_eq_true h40
  refine Way.mono (n := (cO c).size + q + 1) ?_ (by omega)
  refine way_drawnM D is [r] r S sw q (fun e rest hst => ?_) (List.mem_singleton.2 rfl) (by simp) hc hg
  rw [hst.rest ha, hst.full (T := [r]) (regOk_of hg) (List.mem_singleton.2 rfl) rfl sw.all sw.sub sw.uq sw.lk ha]
  exact h
end
section
variable {R : Nat → Goroutine → Array Obj → Prop} {d : Nat} {fn : FuncId} {kd : Kd} {n : Nat} {ds : List Deferred} {ops : Array Oper} {k : List Item} {cs : List Frame} {e0 : Nat → Value} {D : List (Nat × Nat)} {W As : List HP} {T is : List Nat} {a : Nat} {S : List SE}
theorem resume {T2 : List Nat} {r t0 : Nat} {v : Value} (hg : regOk ops D (r :: T2) is = true) (all : ∀ i ∈ is, ∃ x ∈ S, x.i = i) (sub : ∀ x ∈ S, x.i ∈ is) (uq : ∀ x ∈ S, ∀ y ∈ S, x.i = y.i → x = y) (lk : ∀ x ∈ S, dstOf ops x.i = some x.t)
    (ob : ∀ x ∈ S, ∃ Sx, (∀ y ∈ Sx, y ∈ ⟨r, t0, v, false⟩ :: S) ∧ Obl R d fn kd n ds ops k cs e0 D W Sx x) (hl : ∀ x ∈ S, x.ld = true → ((r :: T2).filter fun t => !reach ops 8 t x.i).length ≤ a) (ha : 1 ≤ a) (hW : Ext As W)
    (hT : ∀ t ∈ T2, reach ops 8 t r = true) (hd : dstOf ops r = some t0) (ch : Ch R d fn kd n ds ops k cs e0 D W T2.length S T2 (a - 1) [⟨r, t0, v, false⟩] As)
    {e : Nat → Value} {rest : List Nat} (h : Stood ops e0 D S r e rest) : At R d As (gr fn kd n (put e t0 v) ds (.inRegion ops rest :: k) cs) := by
  obtain ⟨md, fuel, t, listed, hsz, hu, st, hnr, hrd, rfl⟩ := h
  have rg := regOk_of hg
  have hlt : r < ops.size := dstOf_lt hd
  have hlt' : r < listed.size := by omega
  have hset := lsd_set (listed := listed) hlt'
  have hnl : listed[r]?.getD false = false := by
    cases e : listed[r]?.getD false with
    | false => rfl
    | true => exact absurd e hnr
  have hL : ∀ j, ((listed.setIfInBounds r true)[j]?.getD false = true) ↔ (j = r ∨ listed[j]?.getD false = true) := fun j => by
    rw [hset]; by_cases e : j = r <;> simp [e]
  have hu' : unl (fun j => (listed.setIfInBounds r true)[j]?.getD false) ops.size = fuel := by
    have := (unl_set (f := fun j => listed[j]?.getD false) (f' := fun j => (listed.setIfInBounds r true)[j]?.getD false) (i := r) hnl (by simp [hset]) (fun j hj => by simp [hset, hj]) (m := ops.size)).1 hlt
    rw [hu] at this
    omega
  have hnT := nodupB_nd rg.nd
  have hrT2 : r ∉ T2 := (List.nodup_cons.1 hnT).1
  have hirS : ∀ x ∈ S, x.i ≠ r := fun x hx z => (rg.isT x.i (sub x hx)).1 (by rw [z]; exact List.mem_cons_self ..)
  refine drawn_run (T := r :: T2) (is := is) (a := a) (W := W) (As0 := As) (e0 := e0) (D := D) rg fuel t (listed.setIfInBounds r true) (put e t0 v) S [⟨r, t0, v, false⟩] [r] T2 [] As (by simpa using hsz) hu' ⟨fun x hx hLx => ?_, fun s hs => ?_, fun s w hs hw => ?_, fun w hw j hj => ?_, ?_, fun u hu => ?_, fun u hu z => ?_, fun x hx => ?_, fun u hu s hs => ?_, fun x hx => ?_, fun x hx => ?_, fun i hi => ?_, hl, uq, ch, fun _ => hW⟩
  · rcases List.mem_append.1 hx with hx | hx
    · obtain rfl := List.mem_singleton.1 hx
      simp [put]
    · have hxt : x.t ≠ t0 := fun z => hirS x hx (dst_inj rg (lk x hx) (z ▸ hd))
      simp only [put, if_neg hxt]
      exact st.v1 x hx (((hL _).1 hLx).resolve_left (hirS x hx))
  · have : s ≠ t0 := fun z => by subst z; rw [rg.d2 _ _ hd] at hs; cases hs
    simp only [put, if_neg this]; exact st.v2 s hs
  · have : s ≠ t0 := fun z => by
      subst z; rw [rg.d2 _ _ hd] at hs
      exact hw ((hL w).2 (.inl (Option.some.inj hs).symm))
    simp only [put, if_neg this]
    exact st.v3 s w hs fun z => hw ((hL w).2 (.inr z))
  · rw [hL] at hw ⊢
    rcases hw with rfl | hw
    · exact .inr (hrd j hj)
    · exact .inr (st.cl w hw j hj)
  · simp
  · obtain rfl := List.mem_singleton.1 hu
    exact (hL u).2 (.inl rfl)
  · rcases (hL u).1 z with rfl | h
    · exact hrT2 hu
    · rcases reach_succ (f := 7) (hT u hu) with h2 | ⟨m, hm, h2⟩
      · exact hrT2 (h2 ▸ hu)
      · exact hnr (reach_closed st.cl 7 m r h2 (st.cl u h m hm))
  · rcases List.mem_append.1 hx with hx | hx
    · obtain rfl := List.mem_singleton.1 hx; exact hd
    · exact lk x hx
  · obtain rfl := List.mem_singleton.1 hu
    rw [hd] at hs
    exact ⟨_, List.mem_singleton.2 rfl, Option.some.inj hs⟩
  · obtain rfl := List.mem_singleton.1 hx
    exact List.mem_singleton.2 rfl
  · obtain ⟨Sx, h1, h2⟩ := ob x hx
    exact ⟨.inl (sub x hx), Sx, h1, h2⟩
  · exact all i (hi.resolve_right (by simp))
end
end Go.Sl
end
section
set_option linter.unusedVariables false
namespace Go.Sl
open Go.Conc
theorem okS_ev0 {P : Program} {B : Bad} {α : Type} {s : Sem α} {v : α} {H : Array Obj} {d : Nat} {Q : α → Array Obj → Nat → Prop} (h : ev0 P s = some v) (q : Q v H d) : okS P B s H d Q := by
  induction s with
  | pure a => obtain rfl := Option.some.inj h; exact q
  | program k ih => exact ih P h
  | _ => cases h
section
variable {P : Program} {main : Bool} {B : Bad} {R : Nat → Goroutine → Array Obj → Prop} {d : Nat} {As As' F : List HP}
variable {fn : FuncId} {kd : Kd} {n : Nat} {e : Nat → Value} {ds : List Deferred} {k : List Item} {cs : List Frame}
variable {ops : Array Oper} {i : Nat} {rest : List Nat} {dst : Option Nat} {t : Nat} {ty : TypeId} {pos : String} {af : Array Edge} {gd : Option (Nat × Bool)} {x y z : Operand} {v : Value}
theorem Closed.v0 (C : Closed P main B R) {op : Op} (ho : nthO ops i = some ⟨some t, op, ty, pos, af, gd⟩) (h : At R d As (gr fn kd n (put e t v) ds (.inRegion ops rest :: k) cs)) (hv : ev0 P (execOp (ev n e) ⟨some t, op, ty, pos, af, gd⟩) = some (.value v)) (hw : wantB ops n e gd = true := by rfl) :
    At R d As (gr fn kd n e ds (.inRegion ops (i :: rest) :: k) cs) :=
  C.gen ho hw fun H s => okS_ev0 hv ⟨As, s, h⟩
theorem Closed.ta (C : Closed P main B R) {xt tt : TypeId} {ok : Bool} {u : TypeDesc} (hu : P.underlying tt = some u) (hni : (match u with | .interface _ => true | _ => false) = false) (ho : nthO ops i = some ⟨some t, .typeAssert x xt tt ok, ty, pos, af, gd⟩)
    (h : At R d As (gr fn kd n (put e t (if ok then .tuple #[v, .bool true] else v)) ds (.inRegion ops rest :: k) cs)) (hx : ev n e x = .iface tt v := by rfl) (hw : wantB ops n e gd = true := by rfl) :
    At R d As (gr fn kd n e ds (.inRegion ops (i :: rest) :: k) cs) :=
  C.v0 ho h (by
    unfold execOp; simp only [hx]
    refine ev0_do (a := if ok then .tuple #[v, .bool true] else v) ?_ rfl
    unfold Instr.typeAssert
    refine ev0_do (ev0_und hu) ?_
    cases u <;> first | (cases hni; done) | (simp only [if_true]; rfl)) hw
theorem Closed.taN (C : Closed P main B R) {xt tt t0 : TypeId} {u : TypeDesc} {zv : Value} (hu : P.underlying tt = some u) (hni : (match u with | .interface _ => true | _ => false) = false) (hz : ∃ i, P.info? tt = some i ∧ i.zero = some zv) (ho : nthO ops i = some ⟨some t, .typeAssert x xt tt true, ty, pos, af, gd⟩)
    (h : At R d As (gr fn kd n (put e t (.tuple #[zv, .bool false])) ds (.inRegion ops rest :: k) cs)) (hx : ev n e x = .iface t0 v := by rfl) (hne : t0 ≠ tt := by decide) (hw : wantB ops n e gd = true := by rfl) :
    At R d As (gr fn kd n e ds (.inRegion ops (i :: rest) :: k) cs) :=
  C.v0 ho h (by
    unfold execOp; simp only [hx]
    refine ev0_do (a := .tuple #[zv, .bool false]) ?_ rfl
    unfold Instr.typeAssert
    refine ev0_do (ev0_und hu) ?_
    cases u <;> first | (cases hni; done) | (simp only [if_neg hne, if_true]; exact ev0_do (ev0_zero hz) rfl)) hw
theorem Closed.en (C : Closed P main B R) {o : Oper} {f : FuncId} {args : Array Value} {A : List HP} {Q : Value → List HP → Prop} (hs : Spec P main B f args A Q) (he : ev0 P (execOp (ev n e) o) = some (.enter f args))
    (h : ∀ v As', Q v As' → At R d (As' ++ F) (gr fn kd n (putO e o.dst v) ds (.inRegion ops rest :: k) cs)) (ho : nthO ops i = some o := by rfl)
    (hr : ReF A As F := by repeat (first | with_reducible exact ReF.nil | with_reducible exact Fo.head | with_reducible apply Fo.tail | with_reducible apply ReF.cons)) (hw : wantB ops n e o.guard = true := by rfl) : At R d As (gr fn kd n e ds (.inRegion ops (i :: rest) :: k) cs) := by
  refine At.perm hr.perm (C.gen ho hw fun H s => okS_ev0 he ⟨A ++ F, s, ?_⟩)
  exact hs R C .nor d F _ cs trivial fun v As' q => by
    show At R d (As' ++ F) (backTo _ cs v)
    rw [finish_gr ho]
    exact h v As' q
theorem Closed.x0 (C : Closed P main B R) {f : FuncId} {fu : Func} {ex : Array Value → Sem Value} [b : Ext_ P f fu ex] {fo : Operand} {args : Array Operand} {ats : Array TypeId} {vl : List Value} (hx : ev0 P (ex vl.toArray) = some v)
    (ho : nthO ops i = some ⟨dst, .call ⟨.value fo, args, ats⟩, ty, pos, af, gd⟩) (h : At R d As (gr fn kd n (putO e dst v) ds (.inRegion ops rest :: k) cs)) (hf : ev n e fo = .func (.func f) #[] #[] := by rfl) (hv : args.toList.map (ev n e) = vl := by rfl) (hw : wantB ops n e gd = true := by rfl) :
    At R d As (gr fn kd n e ds (.inRegion ops (i :: rest) :: k) cs) :=
  C.xt (vl := vl) (fun H s => okS_ev0 hx ⟨As, s, h⟩) ho hw hf hv
theorem okS_mc {tt el : TypeId} {dir : ChanDir} {inf : TypeInfo} (hu : P.underlying tt = some (.chan dir el)) (hi : P.info? el = some inf) {H : Array Obj} {Q : Next → Array Obj → Nat → Prop} (q : Q (.value (.chan (some H.size))) (H.push (.chan 0 #[] false 0 0 false)) d)
    (hx : ev n e x = .int .i64 0) {o : Oper} (hop : o.op = .makeChan tt x) : okS P B (execOp (ev n e) o) H d Q := by
  unfold execOp
  simp only [hop, hx]
  refine okS_do ?_
  unfold Instr.makeChan
  refine okS_do (okS_ev0 (v := (0 : Int)) rfl ?_)
  refine okS_do (okS_ev0 (ev0_und hu) ?_)
  refine okS_do ?_
  simp only [Int.lt_irrefl, false_or]
  refine okS_ev0 (ev0_info hi) ?_
  have h1 : ¬ ((0 : Int) > IntKind.i64.max) := by decide
  have h2 : ¬ ((inf.bytes : Int) * 0 > 2 ^ 48 - 112) := by simp
  simp only [h1, h2, or_self, if_false]
  show okS P B (newObj (.chan 0 #[] false 0 0 false) >>= fun r => _) H d _
  exact q
theorem Closed.dfx (C : Closed P main B R) {f : FuncId} {fu : Func} {ex : Array Value → Sem Value} [b : Ext_ P f fu ex] {cap args' : Array Value} {ds' : List Deferred} {todo : List Item} {kd : Kd}
    (h : ∀ H, Sat As (hp H) → okS P B (ex (args' ++ cap)) H d fun v H' d' => ∃ As', Sat As' (hp H') ∧ At R d' As' (grR fn kd n e ds' todo cs)) : At R d As (grR fn kd n e (⟨.fn (.func f) cap, args'⟩ :: ds') todo cs) := fun H s => by
  refine C.step d _ H rfl fun w hw' => ?_
  have h0 : okS P B (invoke (.fn (.func f) cap) args') H d fun y H' d' => ∃ v, y = .value v ∧ R d' (grR fn kd n e ds' todo cs) H' := by
    unfold invoke callFunc
    refine okS_do ?_
    show okS P B _ H d _
    simp only [program, okS]
    rw [b.func]
    simp only [b.name, b.body, if_true, Bool.false_eq_true, if_false]
    refine okS_do ?_
    simp only [mark, okS, markOk, deafBy, true_and]
    simp only [b.nx, b.fd]
    refine okS_do (okS_mono (fun v H' d' q => ?_) (h H s))
    obtain ⟨As', s', q⟩ := q
    exact okS_pure ⟨v, rfl, q H' s'⟩
  obtain ⟨y, w', es, d', r1, r2, r3, r4, r5, r6, v, rfl, r7⟩ := okS_sound (w := w) #[] hw' h0
  obtain ⟨s1, s2⟩ := seen_EvOk (P := P) (d := d) (fn := fn) r5
  rw [r6] at s2
  refine ⟨_, w', seen P fn es, ?_, r2, r3, r4, s1, by rw [s2]; exact r7⟩
  simp only [Array.append_empty, Array.empty_append] at r1
  simp only [grR, frmR, frm, stepG, unwind, callDeferred, r1]
  simp [GStep.after, Kd.k]
end
section
variable {P : Program} {Post : Value → World → Prop} {X : Bar} {σ : Gh} {os : Os} {out : Array (Nat × ByteArray)} {d : Nat} {As F : List HP}
variable {fn : FuncId} {kd : Kd} {n : Nat} {e : Nat → Value} {ds : List Deferred} {k : List Item} {cs : List Frame}
variable {ops : Array Oper} {i : Nat} {rest : List Nat} {t : Nat} {ty : TypeId} {pos : String} {af : Array Edge} {gd : Option (Nat × Bool)} {x : Operand}
theorem RunR.mc {tt el : TypeId} {dir : ChanDir} {inf : TypeInfo} (hu : P.underlying tt = some (.chan dir el)) (hi : P.info? el = some inf) (ho : nthO ops i = some ⟨some t, .makeChan tt x, ty, pos, af, gd⟩)
    (h : ∀ b, (∀ i s, σ.seats i = some s → ¬ s.has b) → At (RunR P Post X σ 0 os out) d (pts b (.chan 0 #[] false 0 0 false) :: As) (gr fn kd n (put e t (.chan (some b))) ds (.inRegion ops rest :: k) cs))
    (hx : ev n e x = .int .i64 0 := by rfl) (hw : wantB ops n e gd = true := by rfl) : At (RunR P Post X σ 0 os out) d As (gr fn kd n e ds (.inRegion ops (i :: rest) :: k) cs) := fun H st hole go w hwp ho' hu' => by
  have C : Closed P true (X.bw σ) (RunR P Post X σ 0 os out) := RunR.closed0
  refine C.op (H := H) (d := d) (fn := fn) (kd := kd) (n := n) (e := e) (ds := ds) (k := k) (cs := cs) (ops := ops) (i := i) (rest := rest) (by rw [nthO_eq]; exact ho) (by rw [wanted_eq]; exact hw) ?_ hole go w hwp ho' hu'
  refine okS_mc hu hi ?_ hx rfl
  refine h _ (fun i' s' e' hc => ?_) _ (st.push _)
  have := go.cl i' s' _ e' hc
  omega
theorem RunR.en {o : Oper} {f : FuncId} {args : Array Value} {A : List HP} {Q : Value → Gh → List HP → Prop} (hs : SpecG P X f args σ A Q) (he : ev0 P (execOp (ev n e) o) = some (.enter f args))
    (h : ∀ v σ' As', Q v σ' As' → At (RunR P Post X σ' 0 os out) 0 (As' ++ F) (gr fn kd n (putO e o.dst v) ds (.inRegion ops rest :: k) cs)) (ho : nthO ops i = some o := by rfl)
    (hr : ReF A As F := by repeat (first | with_reducible exact ReF.nil | with_reducible exact Fo.head | with_reducible apply Fo.tail | with_reducible apply ReF.cons)) (hw : wantB ops n e o.guard = true := by rfl) : At (RunR P Post X σ 0 os out) 0 As (gr fn kd n e ds (.inRegion ops (i :: rest) :: k) cs) := by
  refine At.perm hr.perm ?_
  have C : Closed P true (X.bw σ) (RunR P Post X σ 0 os out) := RunR.closed0
  intro H st
  refine C.still (g' := enterG P f args .nor (frm fn kd n e ds (.inRegion ops (i :: rest) :: k) :: cs)) rfl (fun w => stepG_ent ho hw he w) ?_
  refine hs Post os out .nor F _ cs trivial (fun v σ' As' q => ?_) H st
  show At _ 0 _ (backTo _ cs v)
  rw [finish_gr ho]
  exact h v σ' As' q
theorem RunR.dfr {f : FuncId} {cap args' : Array Value} {ds' : List Deferred} {todo : List Item} {kd : Kd} {A : List HP} {Q : Value → Gh → List HP → Prop} {fu : Func} {cc : Code} {nf : Nat} [b : Body P f fu cc nf] (hs : SpecG P X f (args' ++ cap) σ A Q)
    (h : ∀ v σ' As', Q v σ' As' → At (RunR P Post X σ' 0 os out) 0 (As' ++ F) (grR fn kd n e ds' todo cs)) (hr : ReF A As F := by repeat (first | with_reducible exact ReF.nil | with_reducible exact Fo.head | with_reducible apply Fo.tail | with_reducible apply ReF.cons)) : At (RunR P Post X σ 0 os out) 0 As (grR fn kd n e (⟨.fn (.func f) cap, args'⟩ :: ds') todo cs) := by
  refine At.perm hr.perm ?_
  have C : Closed P true (X.bw σ) (RunR P Post X σ 0 os out) := RunR.closed0
  intro H st
  refine C.defCall (f := f) (args := args') (.inr ⟨cap, rfl⟩) ?_
  refine callFunc_pu (P := P) (f := f) (args' ++ cap) _ H 0 _ ?_
  refine ⟨f, _, rfl, ?_⟩
  exact hs Post os out .dfr F (frmR fn kd n e ds' todo) cs rfl (fun v σ' As' q => h v σ' As' q) H st
end
end Go.Sl
end
section
set_option linter.unusedVariables false
namespace Go.Sl
open Go.Proofs
def i32C (n : Int) : List Value := [.int .i32 n]
instance : RowF i32C 1 := ⟨fun _ => rfl, fun a v h => by simp [i32C] at h; subst h; rfl⟩
def opPC (o : OpR) : List Value := [.bool o.w, .int .u8 o.k, .int .i32 o.v]
instance : RowF opPC 3 := ⟨fun _ => rfl, fun a v h => by simp [opPC] at h; rcases h with h | h | h <;> subst h <;> rfl⟩
structure MsgJ (I : HL) (m : MsgV) : Prop where
  o : imSl I opPC 67 m.so m.ops
  r : imSl I i32C 21 m.sr m.reads
inductive EntV where
  | prep (tx home : Int) (ops : List OpR) (so : SliceV)
  | dec (tx : Int) (yes : Bool) (reads : List Int) (sr : SliceV)
  | don (tx : Int) (yes : Bool)
def EntV.abs : EntV → EntP
  | .prep tx home ops _ => .prep tx home ops
  | .dec tx yes reads _ => .dec tx yes reads
  | .don tx yes => .don tx yes
def EntV.val : EntV → Value
  | .prep tx home _ so => .iface 274 (.agg #[.int .i64 tx, .int .i64 home, so.v])
  | .dec tx yes _ sr => .iface 277 (.agg #[.int .i64 tx, .bool yes, sr.v])
  | .don tx yes => .iface 281 (.agg #[.int .i64 tx, .bool yes])
def entC (e : EntV) : List Value := [e.val]
instance : RowF entC 1 := ⟨fun _ => rfl, fun a v h => by simp [entC] at h; subst h; cases a <;> rfl⟩
def EntV.J (I : HL) : EntV → Prop
  | .prep _ _ ops so => imSl I opPC 67 so ops
  | .dec _ _ reads sr => imSl I i32C 21 sr reads
  | .don _ _ => True
structure PndV where
  pl : Int
  home : Int
  ops : List OpR
  so : SliceV
def PndV.abs (p : PndV) : PendP := ⟨p.pl, p.home, p.ops⟩
def pndC (p : PndV) : Value := .agg #[.int .i64 p.pl, .int .i64 p.home, p.so.v]
def plcC (p : PlaceP) : Value := .agg #[.int .i64 p.pl, .bool p.yes]
def int32V (n : Int) : Value := .int .i32 n
def int64V (n : Int) : Value := .int .i64 n
def votG (v : List Int × SliceV) : Value := v.2.v
abbrev ptrV (b : Nat) : Value := .pointer (some ⟨b, 0, none⟩)
structure UnpV where
  b : Nat
  ops : List OpR
  so : SliceV
  votes : List (Int × (List Int × SliceV))
  mv : Nat
  acks : List (Int × Int)
  ma : Nat
  dec : Bool
  yes : Bool
def UnpV.abs (u : UnpV) : UndP := ⟨u.ops, u.votes.map fun p => (p.1, p.2.1), u.acks, u.dec, u.yes⟩
abbrev unpO (u : UnpV) (F : List HP) : List HP := pts u.b (.cells #[u.so.v, .map (some u.mv), .map (some u.ma), .bool u.dec, .bool u.yes] 299 (0, 0)) :: mapP .i64 votG u.mv u.votes :: mapP .i64 int64V u.ma u.acks :: F
def unpP (u : UnpV) : HP := all (unpO u [])
structure UnpJ (I : HL) (u : UnpV) : Prop where
  o : imSl I opPC 67 u.so u.ops
  r : ∀ v ∈ u.votes, imSl I i32C 21 v.2.2 v.2.1
def alC (a : AlV) : List Value := [.int .i64 a.tm, .int .i64 a.ord, .int .i64 a.tx, .bool a.again]
instance : RowF alC 4 := ⟨fun _ => rfl, fun a v h => by simp [alC] at h; rcases h with h | h | h | h <;> subst h <;> rfl⟩
structure ShX where
  me : Int
  n : Int
  up : Bool
  log : List EntV
  good : Int
  values : List (Int × Int)
  locks : List (Int × Int)
  pend : List (Int × PndV)
  done : List (Int × PlaceP)
  decd : List (Int × PlaceP)
  und : List (Int × UnpV)
  timers : List AlV
  order : Int
  clock : Int
  waits : List MsgV
  out : List MsgV
def ShX.abs (s : ShX) : ShP := ⟨s.me, s.n, s.up, s.log.map (·.abs), s.good, s.values, s.locks, s.pend.map fun p => (p.1, p.2.abs), s.done, s.decd, s.und.map fun p => (p.1, p.2.abs), s.timers.map (·.tim), s.clock, s.waits.map (·.toMsgR), s.out.map (·.toMsgR)⟩
def undG (u : UnpV) : Value := ptrV u.b
abbrev unpE (p : Int × UnpV) : HP := unpP p.2
abbrev sxO (b : Nat) (s : ShX) (lg wt ot tm : SliceV) (bv bl bp bd be bu : Nat) (tl : List AlV) (F : List HP) : List HP :=
  pts b (.cells #[.int .i64 s.me, .int .i64 s.n, .bool s.up, lg.v, .int .i64 s.good, .map (some bv), .map (some bl), .map (some bp), .map (some bd), .map (some be), .map (some bu), tm.v, .int .i64 s.order, .int .i64 s.clock, wt.v, ot.v] 180 (0, 0)) ::
    slP entC 1 272 lg s.log :: mapP .u8 int32V bv s.values :: mapP .u8 int64V bl s.locks :: mapP .i64 pndC bp s.pend :: mapP .i64 plcC bd s.done :: mapP .i64 plcC be s.decd :: mapP .i64 undG bu s.und :: all (s.und.map unpE) ::
    slP alC 4 263 tm tl :: slP msgC 7 190 wt s.waits :: slP msgC 7 190 ot s.out :: F
def sxP (b : Nat) (s : ShX) : HP := fun h => ∃ lg wt ot tm : SliceV, ∃ bv bl bp bd be bu : Nat, ∃ tl : List AlV, TimJ s.timers s.order tl ∧ all (sxO b s lg wt ot tm bv bl bp bd be bu tl []) h
structure ShJ (I : HL) (s : ShX) : Prop where
  log : ∀ r ∈ s.log, r.J I
  pend : ∀ p ∈ s.pend, imSl I opPC 67 p.2.so p.2.ops
  und : ∀ u ∈ s.und, UnpJ I u.2
  waits : ∀ m ∈ s.waits, MsgJ I m
  out : ∀ m ∈ s.out, MsgJ I m
theorem MsgJ.mono {I I' : HL} {m : MsgV} (hs : Sub I I') (h : MsgJ I m) : MsgJ I' m := ⟨h.o.mono hs, h.r.mono hs⟩
theorem EntV.J.mono {I I' : HL} {m : EntV} (hs : Sub I I') (h : m.J I) : m.J I' := by
  cases m with
  | prep tx home ops so => exact imSl.mono h hs
  | dec tx yes reads sr => exact imSl.mono h hs
  | don tx yes => trivial
theorem UnpJ.mono {I I' : HL} {u : UnpV} (hs : Sub I I') (h : UnpJ I u) : UnpJ I' u := ⟨h.o.mono hs, fun v hv => (h.r v hv).mono hs⟩
theorem ShJ.mono {I I' : HL} {s : ShX} (hs : Sub I I') (h : ShJ I s) : ShJ I' s := ⟨fun r hr => (h.log r hr).mono hs, fun r hr => (h.pend r hr).mono hs, fun u hu => (h.und u hu).mono hs, fun r hr => (h.waits r hr).mono hs, fun r hr => (h.out r hr).mono hs⟩
section
variable {R : Nat → Goroutine → Array Obj → Prop} {d : Nat} {As F L : List HP} {g : Goroutine} {b : Nat} {s : ShX}
theorem sxP.opn (hf : Fo (sxP b s) As L := by repeat (first | with_reducible exact Fo.head | with_reducible apply Fo.tail)) (h : ∀ (lg wt ot tm : SliceV) (bv bl bp bd be bu : Nat) (tl : List AlV), TimJ s.timers s.order tl → At R d (sxO b s lg wt ot tm bv bl bp bd be bu tl L) g) : At R d As g := by
  refine At.fo hf fun H st => ?_
  obtain ⟨lg, st⟩ := st.ex
  obtain ⟨wt, st⟩ := st.ex
  obtain ⟨ot, st⟩ := st.ex
  obtain ⟨tm, st⟩ := st.ex
  obtain ⟨bv, st⟩ := st.ex
  obtain ⟨bl, st⟩ := st.ex
  obtain ⟨bp, st⟩ := st.ex
  obtain ⟨bd, st⟩ := st.ex
  obtain ⟨be, st⟩ := st.ex
  obtain ⟨bu, st⟩ := st.ex
  obtain ⟨tl, st⟩ := st.ex
  obtain ⟨ht, st⟩ := st.pure
  exact h lg wt ot tm bv bl bp bd be bu tl ht H st.flat
theorem sxP.cls {c : Array Value} (s : ShX) (h : At R d (sxP b s :: F) g) {lg wt ot tm : SliceV} {bv bl bp bd be bu : Nat} {tl : List AlV} (ht : TimJ s.timers s.order tl := by assumption) (hf : Fo (pts b (.cells c 180 (0, 0))) As L := by repeat (first | with_reducible exact Fo.head | with_reducible apply Fo.tail))
    (hc : c = #[.int .i64 s.me, .int .i64 s.n, .bool s.up, lg.v, .int .i64 s.good, .map (some bv), .map (some bl), .map (some bp), .map (some bd), .map (some be), .map (some bu), tm.v, .int .i64 s.order, .int .i64 s.clock, wt.v, ot.v] := by rfl)
    (hr : ReF [slP entC 1 272 lg s.log, mapP .u8 int32V bv s.values, mapP .u8 int64V bl s.locks, mapP .i64 pndC bp s.pend, mapP .i64 plcC bd s.done, mapP .i64 plcC be s.decd, mapP .i64 undG bu s.und, all (s.und.map unpE),
      slP alC 4 263 tm tl, slP msgC 7 190 wt s.waits, slP msgC 7 190 ot s.out] L F := by repeat (first | with_reducible exact ReF.nil | with_reducible exact Fo.head | with_reducible apply Fo.tail | with_reducible apply ReF.cons)) : At R d As g := by
  subst hc
  refine At.perm (hf.perm.trans (hr.perm.cons _)) fun H st => h H ?_
  exact Sat.imp (fun hh x => ⟨lg, wt, ot, tm, bv, bl, bp, bd, be, bu, tl, ht, x⟩) (Sat.unflat (l := sxO b s lg wt ot tm bv bl bp bd be bu tl []) st)
end
end Go.Sl
end
section
set_option linter.unusedVariables false
namespace Go.Sl
open Go.Proofs
def mkdG : TypeId → Nat → Bool := fun t o => t == 23 || t == 114 || (t == 92 && o == 5) || (t == 120 && o == 1)
def shG : TypeId → Nat → Bool := fun t o => t == 92 && (o == 7 || o == 8)
def barX : Bar := ⟨⟨badT.rd, shG, 0⟩, rfl, mkdG, shG, fun b t o h => by
  simp only [mkdG, badT, Bool.or_eq_true, Bool.and_eq_true] at h ⊢
  rcases h with ((h | h) | h) | h
  · exact .inl (.inr h)
  · exact .inl (.inl (.inr h))
  · exact .inl (.inl (.inl h.1))
  · exact .inr h.1, fun t o h => h⟩
theorem barLe (σ : Gh) : BLe (barX.bw σ) badT := ⟨fun b t o h => (Bar.le barX σ).rd b t o h, fun t o h => by
  have h : shG t o = true := h
  simp only [shG, badT, Bool.or_eq_true, Bool.and_eq_true] at h ⊢
  exact .inl (.inl (.inl h.1)), Nat.zero_le _⟩
theorem barLe0 : BLe barX.B0 badT := ⟨fun b t o h => h, (barLe ⟨0, fun _ => none, fun _ => False, 0⟩).sh, Nat.le_refl _⟩
abbrev clA (m : Int) (hosts bag txs dn : Value) (stopped : Bool) (st : Int) : Array Value := #[.int .i32 m, .int .u32 0, hosts, bag, txs, dn, .bool stopped, .int .u64 st, .int .u32 0]
abbrev clP (b : Nat) (m : Int) (hosts bag txs dn : Value) (stopped : Bool) (st : Int) : HP := pts b (.cells (clA m hosts bag txs dn stopped st) 92 (0, 0))
section
variable {σ : Gh} {b : Nat} {hosts bag txs dn : Value} {stopped : Bool} {st : Int}
theorem ilock_spec : Spec Tryz.prog true (barX.bw σ) 62 #[.pointer (some ⟨b, 0, none⟩)] [clP b 0 hosts bag txs dn stopped st] (fun v As => v = .tuple #[] ∧ As = [clP b 1 hosts bag txs dn stopped st]) := by
  refine Spec.of ?_
  intro R C kd d F c cs hkd hret
  simp only [List.cons_append, List.nil_append]
  refine C.go ?_
  refine C.rg [0] ?_
  refine C.xDis rfl ?_
  refine C.go ?_
  refine C.rg [0, 1, 2, 3] ?_
  refine C.mv rfl ?_
  refine C.nc rfl ?_
  refine C.fa rfl ?_
  refine C.xCasT rfl ?_
  refine C.go ?_
  refine C.tru ?_
  refine C.tru ?_
  refine C.rg [0] ?_
  refine C.xEna rfl ?_
  refine C.go ?_
  refine C.rg [0, 1, 2] ?_
  refine C.mv rfl ?_
  refine C.cvp rfl ?_
  refine C.xMk (mk := .acquire) (a := ⟨b, 0, none⟩) rfl ?_ (hm := fun H s => ⟨_, _, Has.get (by repeat (first | with_reducible exact Has.head | with_reducible apply Has.tail)) s⟩)
  refine C.go ?_
  exact C.retR hkd hret ⟨rfl, rfl⟩
theorem iunlock_spec : Spec Tryz.prog true (barX.bw σ) 63 #[.pointer (some ⟨b, 0, none⟩)] [clP b 1 hosts bag txs dn stopped st] (fun v As => v = .tuple #[] ∧ As = [clP b 0 hosts bag txs dn stopped st]) := by
  refine Spec.of ?_
  intro R C kd d F c cs hkd hret
  simp only [List.cons_append, List.nil_append]
  refine C.go ?_
  refine C.tru ?_
  refine C.rg [0, 1, 2, 3] ?_
  refine C.mv rfl ?_
  refine C.nc rfl ?_
  refine C.fa rfl ?_
  refine C.ld rfl ?_
  refine C.go ?_
  refine C.rg [0, 1, 2] ?_
  refine C.mv rfl ?_
  refine C.cvp rfl ?_
  refine C.xMk (mk := .releaseMerge) (a := ⟨b, 0, none⟩) rfl ?_ (hm := fun H s => ⟨_, _, Has.get (by repeat (first | with_reducible exact Has.head | with_reducible apply Has.tail)) s⟩)
  refine C.go ?_
  refine C.rg [0] ?_
  refine C.xDis rfl ?_
  refine C.go ?_
  refine C.rg [0, 1, 2, 3, 4] ?_
  refine C.mv rfl ?_
  refine C.nc rfl ?_
  refine C.fa rfl ?_
  refine C.xAdd (z' := 0) rfl ?_
  refine C.asg rfl ?_
  refine C.go ?_
  refine C.rg [0, 1] ?_
  refine C.mv rfl ?_
  refine C.cmpF rfl ?_
  refine C.go ?_
  refine C.fls ?_
  refine C.rg [0] ?_
  refine C.xEna rfl ?_
  refine C.go ?_
  exact C.finR hkd hret ⟨rfl, rfl⟩
theorem mlock_spec : Spec Tryz.prog true (barX.bw σ) 33 #[.pointer (some ⟨b, 0, none⟩)] [clP b 0 hosts bag txs dn stopped st] (fun v As => v = .tuple #[] ∧ As = [clP b 1 hosts bag txs dn stopped st]) := by
  refine Spec.of ?_
  intro R C kd d F c cs hkd hret
  simp only [List.cons_append, List.nil_append]
  refine C.go ?_
  refine C.rg [0, 1, 2, 3] ?_
  refine C.mv rfl ?_
  refine C.nc rfl ?_
  refine C.fa rfl ?_
  refine C.clR ilock_spec ?_
  rintro v As' ⟨rfl, rfl⟩
  simp only [List.cons_append, List.nil_append]
  refine C.go ?_
  exact C.finR hkd hret ⟨rfl, rfl⟩
theorem unlock_spec : Spec Tryz.prog true (barX.bw σ) 34 #[.pointer (some ⟨b, 0, none⟩)] [clP b 1 hosts bag txs dn stopped st] (fun v As => v = .tuple #[] ∧ As = [clP b 0 hosts bag txs dn stopped st]) := by
  refine Spec.of ?_
  intro R C kd d F c cs hkd hret
  simp only [List.cons_append, List.nil_append]
  refine C.go ?_
  refine C.rg [0, 1, 2, 3] ?_
  refine C.mv rfl ?_
  refine C.nc rfl ?_
  refine C.fa rfl ?_
  refine C.clR iunlock_spec ?_
  rintro v As' ⟨rfl, rfl⟩
  simp only [List.cons_append, List.nil_append]
  refine C.go ?_
  exact C.finR hkd hret ⟨rfl, rfl⟩
end
end Go.Sl
end
section
set_option linter.unusedVariables false
namespace Go.Sl
open Go.Proofs
variable {main : Bool}
section
variable {P : Program} {B : Bad} {R : Nat → Goroutine → Array Obj → Prop} {d : Nat} {As W L : List HP}
variable {fn : FuncId} {kd : Kd} {n : Nat} {e : Nat → Value} {ds : List Deferred} {k : List Item} {cs : List Frame}
variable {ops : Array Oper} {i : Nat} {rest : List Nat} {t : Nat} {ty : TypeId} {pos : String} {af : Array Edge} {gd : Option (Nat × Bool)} {x : Operand} {v : Value} {b off : Nat} {c : Array Value} {el tt : TypeId}
theorem Ext.immK {I : HL} {o : Obj} (h : Ext As W) (hf : Fo (imm I) W L) (hI : I b = some o) : Kn As b o := fun _ st => ((h _ st).perm hf.perm).getI hI
theorem Closed.ldK (C : Closed P main B R) {fr : Nat × Nat} [Ag P tt false] (hk : Kn As b (.cells c el fr)) (hs : b < B.bot) (hc : c[off]? = some v) (ho : nthO ops i = some ⟨some t, .load tt x, ty, pos, af, gd⟩) (h : At R d As (gr fn kd n (put e t v) ds (.inRegion ops rest :: k) cs))
    (hx : ev n e x = .pointer (some ⟨b, off, none⟩) := by rfl) (hw : wantB ops n e gd = true := by rfl) : At R d As (gr fn kd n e ds (.inRegion ops (i :: rest) :: k) cs) :=
  C.gen ho hw fun H st => by
    unfold execOp; simp only [hx, Instr.loadAt, Instr.sureAddr]
    exact okS_do (okS_do (okS_pure (okS_loadVar0 (hk _ st) hc hs ⟨As, st, h⟩)))
end
def inSl {α : Type} (I : HL) (bot : Nat) (f : α → List Value) (z : Nat) (v : Value) (l : List α) : Prop :=
  ∃ (a : Option Addr) (cap : Nat), v = .slice a l.length cap ∧ (l = [] ∨ ∃ b off c ty fr, a = some ⟨b, off, none⟩ ∧ I b = some (.cells c ty fr) ∧ b < bot ∧ ∀ j (hj : j < l.length) o, o < z → c[off + j * z + o]? = (f l[j])[o]?)
theorem inSl.mono {α : Type} {I I' : HL} {bot : Nat} {f : α → List Value} {z : Nat} {v : Value} {l : List α} (h : inSl I bot f z v l) (hs : Sub I I') : inSl I' bot f z v l := by
  obtain ⟨a, cap, h1, h2⟩ := h
  refine ⟨a, cap, h1, ?_⟩
  rcases h2 with h2 | ⟨b, off, c, ty, fr, h3, h4, h5⟩
  · exact .inl h2
  · exact .inr ⟨b, off, c, ty, fr, h3, hs _ _ h4, h5⟩
theorem inSl.at {α : Type} {I : HL} {bot : Nat} {f : α → List Value} {z : Nat} {v : Value} {l : List α} (h : inSl I bot f z v l) (hl : 0 < l.length) : ∃ b off cap c ty fr, v = .slice (some ⟨b, off, none⟩) l.length cap ∧ I b = some (.cells c ty fr) ∧ b < bot ∧ ∀ j (hj : j < l.length) o, o < z → c[off + j * z + o]? = (f l[j])[o]? := by
  obtain ⟨a, cap, h1, h2⟩ := h
  rcases h2 with rfl | ⟨b, off, c, ty, fr, rfl, h4, h5⟩
  · cases hl
  · exact ⟨b, off, cap, c, ty, fr, h1, h4, h5⟩
def OpZ (o : OpR) : Prop := (-9223372036854775808 ≤ o.k ∧ o.k ≤ 9223372036854775807) ∧ (-9223372036854775808 ≤ o.v ∧ o.v ≤ 9223372036854775807)
def keptO (o : OpR) : OpR := ⟨o.w, IntKind.u8.wrap o.k, IntKind.i32.wrap o.v⟩
theorem u8_rng (p : Int) : 0 ≤ IntKind.u8.wrap p ∧ IntKind.u8.wrap p ≤ 255 := by rw [IntKind.wrap_u8]; omega
theorem i32_rng (p : Int) : -2147483648 ≤ IntKind.i32.wrap p ∧ IntKind.i32.wrap p ≤ 2147483647 := by rw [IntKind.wrap_i32]; omega
def pickR (a b : Int) : Int := (if a < 0 then 0 - (a + 1) else a).tmod b
theorem pickR_rng {a b : Int} (hb : 0 < b) : 0 ≤ pickR a b ∧ pickR a b < b := by
  unfold pickR
  refine ⟨Int.tmod_nonneg _ ?_, Int.tmod_lt_of_pos _ hb⟩
  split <;> omega
theorem pick_spec {a b : Int} (ha : -9223372036854775808 ≤ a ∧ a ≤ 9223372036854775807) (hb : 0 < b) : Spec Tryz.prog main badT 15 #[.int .i64 a, .int .i64 b] [] (fun v As => v = .int .i64 (pickR a b) ∧ As = []) := by
  refine Spec.of ?_
  intro R C kd d F c cs hkd hret
  simp only [List.nil_append]
  refine C.go ?_
  refine C.rg [0] ?_
  refine C.asg rfl ?_
  refine C.go ?_
  refine C.rg [0, 1] ?_
  refine C.mv rfl ?_
  refine C.cmp rfl (fun h6 => ?_) (fun h6 => ?_)
  · skip
    refine C.go ?_
    refine C.tru ?_
    refine C.rg [0, 1, 2, 3] ?_
    refine C.mv rfl ?_
    refine C.ar (p := a) (q := 1) (r := a + 1) rfl ?_
    refine C.ngI rfl ?_ (p := a + 1) (r := 0 - (a + 1)) (hr := w64 (by omega) (by omega))
    refine C.asg rfl ?_
    refine C.go ?_
    refine C.rg [0, 1, 2, 3] ?_
    refine C.mv rfl ?_
    refine C.mv rfl ?_
    refine C.rem rfl ?_
    refine C.asg rfl ?_
    refine C.go ?_
    exact C.retR hkd hret ⟨by unfold pickR; rw [if_pos h6], rfl⟩
  · skip
    refine C.go ?_
    refine C.fls ?_
    refine C.rg [0, 1, 2, 3] ?_
    refine C.mv rfl ?_
    refine C.mv rfl ?_
    refine C.rem rfl ?_
    refine C.asg rfl ?_
    refine C.go ?_
    exact C.retR hkd hret ⟨by unfold pickR; rw [if_neg h6], rfl⟩
theorem kept_spec {σ : Gh} {I : HL} {v : Value} {ops : List OpR} (hi : inSl I σ.bot opRC 3 v ops) (hz : ∀ o ∈ ops, OpZ o) (hl : ops.length * 24 ≤ 140737488355328) :
    Spec Tryz.prog true (barX.bw σ) 17 #[v] [imm I] (fun u As => ∃ s' : SliceV, u = s'.v ∧ As = [slP opRC 3 63 s' (ops.map keptO), imm I]) := by
  refine Spec.of ?_
  intro R C kd d F c cs hkd hret
  simp only [List.cons_append, List.nil_append]
  obtain ⟨a, cap, hv, hin⟩ := hi
  subst hv
  refine C.go ?_
  refine At.nilS opRC 3 63 (show At R d (slP opRC 3 63 nilS ((ops.take 0).map keptO) :: _) _ from ?_)
  refine C.rg [0] ?_
  refine C.asg rfl ?_
  refine C.go ?_
  refine C.rg [0] ?_
  refine C.asg rfl ?_
  refine C.go ?_
  refine C.rg [0] ?_
  refine C.asg rfl ?_
  refine C.go ?_
  refine C.loopR (X := Nat × SliceV) (fun x => [(0, .slice a ops.length cap), (2, nilS.v), (3, x.2.v), (4, .int .i64 x.1)]) (fun x => slP opRC 3 63 x.2 ((ops.take x.1).map keptO) :: imm I :: F) (fun x => x.1 ≤ ops.length) (fun x => ops.length - x.1) (0, nilS) ⟨rfl, rfl, rfl, rfl, trivial⟩ (Nat.zero_le _) ?_
  rintro ⟨i, s⟩ e hi ih
  dsimp only at hi ⊢
  refine C.go ?_
  refine C.rg [0, 1, 2, 3] ?_
  refine C.mv rfl ?_
  refine C.mv rfl ?_
  refine C.ln rfl ?_
  refine C.cmp rfl (fun h8 => ?_) (fun h8 => ?_)
  · skip
    refine C.go ?_
    refine C.tru ?_
    have hj : i < ops.length := by omega
    rcases hin with rfl | ⟨b, off, cc, ty, fr, rfl, hI, hsh, hrow⟩
    · exact absurd hj (by simp)
    have h0 := hrow i hj 0 (by decide)
    have h1 := hrow i hj 1 (by decide)
    have h2 := hrow i hj 2 (by decide)
    have hbz := hz _ (List.getElem_mem hj)
    obtain ⟨o, ho⟩ : ∃ o, o = ops[i] := ⟨_, rfl⟩
    rw [← ho] at h0 h1 h2 hbz
    have hlen : ((ops.take i).map keptO).length = i := by simp; omega
    have htk : (ops.take i).map keptO ++ [keptO o] = (ops.take (i + 1)).map keptO := by rw [ho, List.take_succ_eq_append_getElem hj, List.map_append]; rfl
    refine C.drawn [(11, 0), (12, 1), (13, 2), (14, 3), (15, 4), (16, 5), (17, 6), (18, 7), (19, 8), (20, 9), (21, 10), (22, 11), (23, 12), (24, 13), (25, 14), (26, 15), (27, 16), (28, 17), (29, 18), (30, 19), (31, 20), (32, 21), (33, 22), (3, 23)] [0, 1, 2, 3, 4, 5, 6, 7, 8, 9, 10, 11, 12, 13, 14, 15, 16, 17, 18, 19, 20] [21, 22, 23] 1 ?_
    refine Dr.pu ⟨_, rfl, rfl⟩ (fun _ _ _ h => C.mv rfl h) ?_
    refine Dr.pu ⟨_, rfl, rfl⟩ (fun _ _ _ h => C.mv rfl h) ?_
    refine Dr.pu ⟨_, rfl, rfl⟩ (fun _ _ _ h => C.mv rfl h) ?_
    refine Dr.ld ⟨_, rfl, rfl⟩ (fun _ hE _ _ h => C.ia (j := (i : Int)) (o := off + i * 3) rfl h (hoff := by simp)) ?_
    refine Dr.pu ⟨_, rfl, rfl⟩ (fun _ _ _ h => C.fa rfl h) ?_
    refine Dr.ld ⟨_, rfl, rfl⟩ (fun _ hE _ _ h => C.ldK (hE.immK (by (repeat (first | with_reducible exact Fo.head | with_reducible apply Fo.tail))) hI) hsh h0 rfl h) ?_
    refine Dr.pu ⟨_, rfl, rfl⟩ (fun _ _ _ h => C.mv rfl h) ?_
    refine Dr.pu ⟨_, rfl, rfl⟩ (fun _ _ _ h => C.mv rfl h) ?_
    refine Dr.ld ⟨_, rfl, rfl⟩ (fun _ hE _ _ h => C.ia (j := (i : Int)) (o := off + i * 3) rfl h (hoff := by simp)) ?_
    refine Dr.pu ⟨_, rfl, rfl⟩ (fun _ _ _ h => C.fa rfl h) ?_
    refine Dr.ld ⟨_, rfl, rfl⟩ (fun _ hE _ _ h => C.ldK (hE.immK (by (repeat (first | with_reducible exact Fo.head | with_reducible apply Fo.tail))) hI) hsh h1 rfl h) ?_
    refine Dr.pu ⟨_, rfl, rfl⟩ (fun _ _ _ h => C.cv (k1 := .i64) (k2 := .u8) (p := o.k) (r := IntKind.u8.wrap o.k) rfl h (hr := rfl)) ?_
    refine Dr.pu ⟨_, rfl, rfl⟩ (fun _ _ _ h => C.cv (k1 := .u8) (k2 := .i64) (p := IntKind.u8.wrap o.k) (r := IntKind.u8.wrap o.k) rfl h (hr := w64 (by have := u8_rng o.k; omega) (by have := u8_rng o.k; omega))) ?_
    refine Dr.pu ⟨_, rfl, rfl⟩ (fun _ _ _ h => C.mv rfl h) ?_
    refine Dr.pu ⟨_, rfl, rfl⟩ (fun _ _ _ h => C.mv rfl h) ?_
    refine Dr.ld ⟨_, rfl, rfl⟩ (fun _ hE _ _ h => C.ia (j := (i : Int)) (o := off + i * 3) rfl h (hoff := by simp)) ?_
    refine Dr.pu ⟨_, rfl, rfl⟩ (fun _ _ _ h => C.fa rfl h) ?_
    refine Dr.ld ⟨_, rfl, rfl⟩ (fun _ hE _ _ h => C.ldK (hE.immK (by (repeat (first | with_reducible exact Fo.head | with_reducible apply Fo.tail))) hI) hsh h2 rfl h) ?_
    refine Dr.pu ⟨_, rfl, rfl⟩ (fun _ _ _ h => C.cv (k1 := .i64) (k2 := .i32) (p := o.v) (r := IntKind.i32.wrap o.v) rfl h (hr := rfl)) ?_
    refine Dr.pu ⟨_, rfl, rfl⟩ (fun _ _ _ h => C.cv (k1 := .i32) (k2 := .i64) (p := IntKind.i32.wrap o.v) (r := IntKind.i32.wrap o.v) rfl h (hr := w64 (by have := i32_rng o.v; omega) (by have := i32_rng o.v; omega))) ?_
    refine Dr.pu ⟨_, rfl, rfl⟩ (fun _ _ _ h => C.bd rfl h) ?_
    refine Dr.chain rfl ?_
    refine Ch.n1 (t := 21) rfl ⟨_, rfl, fun e rest hk => ?_⟩
    refine C.bs1 rfl (fun b32 => hk _ _ .cons ?_)
    refine Ch.n1 (t := 22) rfl ⟨_, rfl, fun e rest hk => ?_⟩
    refine C.ap1 (f := opRC) (keptO o) rfl (fun s2 => ?_) (hsz := by rw [hlen]; omega)
    refine hk _ _ ?_
    refine Ch.pu (i := 23) ⟨_, rfl, rfl⟩ (fun _ _ _ h => C.asg rfl h) ?_
    refine Ch.fin ?_
    refine C.go ?_
    refine C.rg [0, 1, 2] ?_
    refine C.mv rfl ?_
    refine C.ar rfl ?_
    refine C.asg rfl ?_
    refine C.go ?_
    rw [htk]
    refine again ih (i + 1, s2) (by dsimp only; omega) (by dsimp only; omega)
  · skip
    refine C.go ?_
    refine C.fls ?_
    refine C.rg [0, 1] ?_
    refine C.mv rfl ?_
    refine C.asg rfl ?_
    refine C.go ?_
    have hie : i = ops.length := by omega
    subst hie
    rw [List.take_length]
    exact C.retR hkd hret ⟨s, rfl, rfl⟩
theorem given_spec {I : HL} {so : SliceV} {ops : List OpR} (hi : imSl I opRC 63 so ops) (hz : ∀ o ∈ ops, (0 ≤ o.k ∧ o.k ≤ 255) ∧ (-2147483648 ≤ o.v ∧ o.v ≤ 2147483647)) (hl : ops.length * 8 ≤ 140737488355328) :
    Spec Tryz.prog main badT 19 #[so.v] [imm I] (fun u As => ∃ s' : SliceV, u = s'.v ∧ As = [slP opPC 3 67 s' ops, imm I]) := by
  refine Spec.of ?_
  intro R C kd d F c cs hkd hret
  simp only [List.cons_append, List.nil_append]
  refine C.go ?_
  refine At.nilS opPC 3 67 (show At R d (slP opPC 3 67 nilS (ops.take 0) :: _) _ from ?_)
  refine C.rg [0] ?_
  refine C.asg rfl ?_
  refine C.go ?_
  refine C.rg [0] ?_
  refine C.asg rfl ?_
  refine C.go ?_
  refine C.rg [0] ?_
  refine C.asg rfl ?_
  refine C.go ?_
  refine C.loopR (X := Nat × SliceV) (fun x => [(0, so.v), (2, nilS.v), (3, x.2.v), (4, .int .i64 x.1)]) (fun x => slP opPC 3 67 x.2 (ops.take x.1) :: imm I :: F) (fun x => x.1 ≤ ops.length) (fun x => ops.length - x.1) (0, nilS) ⟨rfl, rfl, rfl, rfl, trivial⟩ (Nat.zero_le _) ?_
  rintro ⟨i, s⟩ e hile ih
  dsimp only at hile ⊢
  refine C.go ?_
  refine C.rg [0, 1, 2, 3] ?_
  refine C.mv rfl ?_
  refine C.mv rfl ?_
  refine C.lnR rfl ?_
  refine C.cmp rfl (fun h8 => ?_) (fun h8 => ?_)
  · skip
    refine C.go ?_
    refine C.tru ?_
    have hj : i < ops.length := by omega
    have hbz := hz _ (List.getElem_mem hj)
    have hlen : (ops.take i).length = i := by simp; omega
    have htk : ops.take i ++ [ops[i]] = ops.take (i + 1) := by rw [List.take_succ_eq_append_getElem hj]
    refine C.drawn [(11, 0), (12, 1), (13, 2), (14, 3), (15, 4), (16, 5), (17, 6), (18, 7), (19, 8), (20, 9), (21, 10), (22, 11), (23, 12), (24, 13), (25, 14), (26, 15), (27, 16), (28, 17), (29, 18), (30, 19), (31, 20), (3, 21)] [0, 1, 2, 3, 4, 5, 6, 7, 8, 9, 10, 11, 12, 13, 14, 15, 16, 17, 18] [19, 20, 21] 1 ?_
    refine Dr.pu ⟨_, rfl, rfl⟩ (fun _ _ _ h => C.mv rfl h) ?_
    refine Dr.pu ⟨_, rfl, rfl⟩ (fun _ _ _ h => C.mv rfl h) ?_
    refine Dr.pu ⟨_, rfl, rfl⟩ (fun _ _ _ h => C.mv rfl h) ?_
    refine Dr.ld ⟨_, rfl, rfl⟩ (fun _ hE _ _ h => C.iaR rfl h) ?_
    refine Dr.pu ⟨_, rfl, rfl⟩ (fun _ _ _ h => C.fa rfl h) ?_
    refine Dr.ld ⟨_, rfl, rfl⟩ (fun _ hE _ _ h => C.ldR (f := opRC) (s := so) (l := ops) (j := i) (o := 0) rfl h (hr := RowS.ext hE (.imm (by (repeat (first | with_reducible exact Fo.head | with_reducible apply Fo.tail))) hi))) ?_
    refine Dr.pu ⟨_, rfl, rfl⟩ (fun _ _ _ h => C.mv rfl h) ?_
    refine Dr.pu ⟨_, rfl, rfl⟩ (fun _ _ _ h => C.mv rfl h) ?_
    refine Dr.ld ⟨_, rfl, rfl⟩ (fun _ hE _ _ h => C.iaR rfl h) ?_
    refine Dr.pu ⟨_, rfl, rfl⟩ (fun _ _ _ h => C.fa rfl h) ?_
    refine Dr.ld ⟨_, rfl, rfl⟩ (fun _ hE _ _ h => C.ldR (f := opRC) (s := so) (l := ops) (j := i) (o := 1) rfl h (hr := RowS.ext hE (.imm (by (repeat (first | with_reducible exact Fo.head | with_reducible apply Fo.tail))) hi))) ?_
    refine Dr.pu ⟨_, rfl, rfl⟩ (fun _ _ _ h => C.cv rfl h) ?_
    refine Dr.pu ⟨_, rfl, rfl⟩ (fun _ _ _ h => C.mv rfl h) ?_
    refine Dr.pu ⟨_, rfl, rfl⟩ (fun _ _ _ h => C.mv rfl h) ?_
    refine Dr.ld ⟨_, rfl, rfl⟩ (fun _ hE _ _ h => C.iaR rfl h) ?_
    refine Dr.pu ⟨_, rfl, rfl⟩ (fun _ _ _ h => C.fa rfl h) ?_
    refine Dr.ld ⟨_, rfl, rfl⟩ (fun _ hE _ _ h => C.ldR (f := opRC) (s := so) (l := ops) (j := i) (o := 2) rfl h (hr := RowS.ext hE (.imm (by (repeat (first | with_reducible exact Fo.head | with_reducible apply Fo.tail))) hi))) ?_
    refine Dr.pu ⟨_, rfl, rfl⟩ (fun _ _ _ h => C.cv rfl h) ?_
    refine Dr.pu ⟨_, rfl, rfl⟩ (fun _ _ _ h => C.bd rfl h) ?_
    refine Dr.chain rfl ?_
    refine Ch.n1 (t := 19) rfl ⟨_, rfl, fun e rest hk => ?_⟩
    refine C.bs1 rfl (fun b30 => hk _ _ .cons ?_)
    refine Ch.n1 (t := 20) rfl ⟨_, rfl, fun e rest hk => ?_⟩
    refine C.ap1 (f := opPC) ops[i] rfl (fun s2 => ?_) (hsz := by rw [hlen]; omega)
    refine hk _ _ ?_
    refine Ch.pu (i := 21) ⟨_, rfl, rfl⟩ (fun _ _ _ h => C.asg rfl h) ?_
    refine Ch.fin ?_
    refine C.go ?_
    refine C.rg [0, 1, 2] ?_
    refine C.mv rfl ?_
    refine C.ar rfl ?_
    refine C.asg rfl ?_
    refine C.go ?_
    rw [htk]
    refine again ih (i + 1, s2) (by dsimp only; omega) (by dsimp only; omega)
  · skip
    refine C.go ?_
    refine C.fls ?_
    refine C.rg [0, 1] ?_
    refine C.mv rfl ?_
    refine C.asg rfl ?_
    refine C.go ?_
    have hie : i = ops.length := by omega
    subst hie
    rw [List.take_length]
    exact C.retR hkd hret ⟨s, rfl, rfl⟩
end Go.Sl
end
section
set_option linter.unusedVariables false
namespace Go.Sl
open Go.Conc
section
variable {P : Program} {main : Bool} {B : Bad} {R : Nat → Goroutine → Array Obj → Prop} {d : Nat} {As As' F : List HP}
variable {fn : FuncId} {kd : Kd} {n : Nat} {e : Nat → Value} {ds : List Deferred} {k : List Item} {cs : List Frame}
variable {ops : Array Oper} {i : Nat} {rest : List Nat} {dst : Option Nat} {t : Nat} {ty : TypeId} {pos : String} {af : Array Edge} {gd : Option (Nat × Bool)} {x y z : Operand} {v : Value}
theorem okS_frz {H : Array Obj} {b o : Nat} {c : Array Value} {el : TypeId} {Q : Bool → Array Obj → Nat → Prop} (h1 : hp H b = some (.cells c el (0, 0))) (q : Q false H d) : okS P B (frozen ⟨b, o, none⟩) H d Q := by
  have h1' : H[b]? = some (.cells c el (0, 0)) := h1
  simp only [frozen, okS, frozenH, h1']
  simpa using q
theorem okS_strg {H : Array Obj} {b o : Nat} {c : Array Value} {el : TypeId} {Q : Bool → Array Obj → Nat → Prop} (h1 : hp H b = some (.cells c el (0, 0))) (q : Q false H d) : okS P B (stringish ⟨b, o, none⟩) H d Q := by
  unfold stringish
  refine okS_do (okS_frz h1 ?_)
  simp only [Bool.false_eq_true, if_false]
  refine okS_do ?_
  have h1' : H[b]? = some (.cells c el (0, 0)) := h1
  simp only [shape, okS, shapeH, h1']
  exact okS_frz h1 q
theorem okS_same {H : Array Obj} {b1 o1 b2 o2 : Nat} {c1 c2 : Array Value} {e1 e2 : TypeId} {Q : Bool → Array Obj → Nat → Prop} (h1 : hp H b1 = some (.cells c1 e1 (0, 0))) (h2 : hp H b2 = some (.cells c2 e2 (0, 0)))
    (q : Q (decide (b1 = b2 ∧ o1 = o2)) H d) : okS P B (sameAddr ⟨b1, o1, none⟩ ⟨b2, o2, none⟩) H d Q := by
  unfold sameAddr
  by_cases hb : b1 = b2
  · subst hb
    simp only [beq_self_eq_true, if_true]
    refine okS_do (okS_pure ?_)
    have : ((⟨b1, o1, none⟩ : Addr) == ⟨b1, o2, none⟩) = decide (b1 = b1 ∧ o1 = o2) := by
      rw [Bool.eq_iff_iff]; simp
    first | exact okS_pure (by rw [this]; exact q) | (simp only [this]; exact q)
  · have hbb : (b1 == b2) = false := by simpa using hb
    simp only [hbb, Bool.false_eq_true, if_false]
    refine okS_do (okS_frz h1 ?_)
    refine okS_do (okS_frz h2 ?_)
    simp only [Bool.and_self, Bool.false_eq_true, if_false]
    refine okS_do (okS_do ?_)
    refine okS_viewAt h1 ?_
    refine okS_pure ?_
    refine okS_do (okS_do ?_)
    refine okS_viewAt h2 ?_
    refine okS_pure ?_
    refine okS_do ?_
    unfold mayBeOne
    refine okS_do (okS_strg h1 ?_)
    refine okS_do (okS_strg h2 ?_)
    refine okS_do (okS_do ?_)
    have h1' : H[b1]? = some (.cells c1 e1 (0, 0)) := h1
    have h2' : H[b2]? = some (.cells c2 e2 (0, 0)) := h2
    simp only [shape, okS, shapeH, h1']
    refine okS_pure ?_
    refine okS_do (okS_do ?_)
    simp only [shape, okS, shapeH, h2']
    refine okS_pure ?_
    simp only [Bool.false_and, Bool.or_self]
    refine okS_pure ?_
    have : decide (b1 = b2 ∧ o1 = o2) = false := by simp [hb]
    rw [this] at q
    exact q
theorem okS_eqI {H : Array Obj} {b1 o1 b2 o2 : Nat} {c1 c2 : Array Value} {e1 e2 tt tx tp : TypeId} {sz : Nat} {ms : Array (String × TypeId)} {inf : TypeInfo} {Q : Bool → Array Obj → Nat → Prop} (hu : P.underlying tt = some (.interface ms)) (hi : P.info? tx = some inf) (hc : inf.comparable = true) [c : Pt P tx tp] [cz : Cz P tp sz] (hz : sz ≠ 0)
    (h1 : hp H b1 = some (.cells c1 e1 (0, 0))) (h2 : hp H b2 = some (.cells c2 e2 (0, 0))) (q : Q (decide (b1 = b2 ∧ o1 = o2)) H d) : okS P B (Op.equal tt (.iface tx (.pointer (some ⟨b1, o1, none⟩))) (.iface tx (.pointer (some ⟨b2, o2, none⟩)))) H d Q := by
  unfold Op.equal
  show okS P B (Op.equalIn (9998 + 1 + 1) _ _ _) H d Q
  unfold Op.equalIn
  refine okS_do (okS_ev0 (ev0_und hu) ?_)
  simp only [ne_eq, not_true_eq_false, if_false]
  refine okS_do (okS_ev0 (ev0_info hi) ?_)
  simp only [hc, Bool.not_true, Bool.false_eq_true, if_false]
  unfold Op.equalIn
  refine okS_do (okS_ev0 (ev0_und c.h) ?_)
  simp only
  refine okS_do (pu_size B H d _ ?_)
  simp only [ne_eq, hz, not_false_eq_true, if_true]
  exact okS_same h1 h2 q
theorem okS_eqN {H : Array Obj} {tt tx ty : TypeId} {u w : Value} {ms : Array (String × TypeId)} {Q : Bool → Array Obj → Nat → Prop} (hu : P.underlying tt = some (.interface ms)) (hne : tx ≠ ty) (q : Q false H d) : okS P B (Op.equal tt (.iface tx u) (.iface ty w)) H d Q := by
  unfold Op.equal
  show okS P B (Op.equalIn (9998 + 1 + 1) _ _ _) H d Q
  unfold Op.equalIn
  refine okS_do (okS_ev0 (ev0_und hu) ?_)
  simp only [ne_eq, hne, not_false_eq_true, if_true]
  exact okS_pure q
def isEq : BinOp → Option Bool
  | .eql => some true
  | .neq => some false
  | _ => none
theorem okS_bin {H : Array Obj} {op : BinOp} {r : Bool} {tt tx ty : TypeId} {u w : Value} {Q : Value → Array Obj → Nat → Prop} (hop : isEq op = some r) (h : okS P B (Op.equal tt (.iface tx u) (.iface ty w)) H d fun z H' d' => Q (.bool (z == r)) H' d') : okS P B (do eqGuard op tt x y (.iface tx u) (.iface ty w); binOp op tt (.iface tx u) (.iface ty w)) H d Q := by
  cases op <;> first | (cases hop; done) | skip
  · obtain rfl := Option.some.inj hop
    refine okS_do (okS_ev0 (v := ()) ?_ ?_)
    · unfold eqGuard; rfl
    · show okS P B (Op.equal _ _ _ >>= fun z => pure (.bool z)) H d Q
      refine okS_do (okS_mono (fun z H' d' hz => ?_) h)
      refine okS_pure (?_)
      simpa using hz
  · obtain rfl := Option.some.inj hop
    refine okS_do (okS_ev0 (v := ()) ?_ ?_)
    · unfold eqGuard; rfl
    · show okS P B (Op.equal _ _ _ >>= fun z => pure (.bool (!z))) H d Q
      refine okS_do (okS_mono (fun z H' d' hz => ?_) h)
      refine okS_pure (?_)
      simpa using hz
theorem Closed.eqP (C : Closed P main B R) {op : BinOp} {r : Bool} {b1 o1 b2 o2 : Nat} {c1 c2 : Array Value} {e1 e2 tt t2 tx tp : TypeId} {sz : Nat} {ms : Array (String × TypeId)} {inf : TypeInfo} (hu : P.underlying tt = some (.interface ms)) (hi : P.info? tx = some inf) (hc : inf.comparable = true) [c : Pt P tx tp] [cz : Cz P tp sz]
    (ho : nthO ops i = some ⟨some t, .binOp op tt x y t2, ty, pos, af, gd⟩) (h : At R d As (gr fn kd n (put e t (.bool (decide (b1 = b2 ∧ o1 = o2) == r))) ds (.inRegion ops rest :: k) cs)) (h1 : ∀ H, Sat As (hp H) → hp H b1 = some (.cells c1 e1 (0, 0))) (h2 : ∀ H, Sat As (hp H) → hp H b2 = some (.cells c2 e2 (0, 0)))
    (hop : isEq op = some r := by rfl) (hx : ev n e x = .iface tx (.pointer (some ⟨b1, o1, none⟩)) := by rfl) (hy : ev n e y = .iface tx (.pointer (some ⟨b2, o2, none⟩)) := by rfl) (hz : sz ≠ 0 := by decide) (hw : wantB ops n e gd = true := by rfl) : At R d As (gr fn kd n e ds (.inRegion ops (i :: rest) :: k) cs) :=
  C.gen ho hw fun H s => by
    unfold execOp; simp only [hx, hy]
    exact okS_do (okS_bin hop (okS_eqI hu hi hc hz (h1 H s) (h2 H s) ⟨As, s, h⟩))
theorem Closed.eqN (C : Closed P main B R) {op : BinOp} {r : Bool} {tt t2 tx ty' : TypeId} {u w : Value} {ms : Array (String × TypeId)} (hu : P.underlying tt = some (.interface ms)) (ho : nthO ops i = some ⟨some t, .binOp op tt x y t2, ty, pos, af, gd⟩) (h : At R d As (gr fn kd n (put e t (.bool (false == r))) ds (.inRegion ops rest :: k) cs))
    (hop : isEq op = some r := by rfl) (hx : ev n e x = .iface tx u := by rfl) (hy : ev n e y = .iface ty' w := by rfl) (hne : tx ≠ ty' := by decide) (hw : wantB ops n e gd = true := by rfl) : At R d As (gr fn kd n e ds (.inRegion ops (i :: rest) :: k) cs) :=
  C.gen ho hw fun H s => by
    unfold execOp; simp only [hx, hy]
    exact okS_do (okS_bin hop (okS_eqN hu hne ⟨As, s, h⟩))
theorem Closed.eqZ (C : Closed P main B R) {op : BinOp} {r : Bool} {tt t2 tx : TypeId} {u : Value} {ms : Array (String × TypeId)} (hu : P.underlying tt = some (.interface ms)) (ho : nthO ops i = some ⟨some t, .binOp op tt x y t2, ty, pos, af, gd⟩) (h : At R d As (gr fn kd n (put e t (.bool (false == r))) ds (.inRegion ops rest :: k) cs))
    (hop : isEq op = some r := by rfl) (hx : ev n e x = .iface tx u := by rfl) (hy : ev n e y = .nilIface := by rfl) (hw : wantB ops n e gd = true := by rfl) : At R d As (gr fn kd n e ds (.inRegion ops (i :: rest) :: k) cs) :=
  C.v0 ho h (by
    unfold execOp; simp only [hx, hy]
    refine ev0_do (a := .bool (false == r)) ?_ rfl
    have h0 : ev0 P (Op.equal tt (.iface tx u) .nilIface) = some false := by
      unfold Op.equal
      show ev0 P (Op.equalIn (9998 + 1 + 1) _ _ _) = _
      unfold Op.equalIn
      exact ev0_do (ev0_und hu) rfl
    cases op <;> first | (cases hop; done) | skip
    · obtain rfl := Option.some.inj hop
      refine ev0_do (a := ()) (by unfold eqGuard; rfl) ?_
      exact ev0_do h0 rfl
    · obtain rfl := Option.some.inj hop
      refine ev0_do (a := ()) (by unfold eqGuard; rfl) ?_
      exact ev0_do h0 rfl) hw
def isK : Operand → Bool
  | .const _ => true
  | _ => false
theorem Closed.eqZZ (C : Closed P main B R) {op : BinOp} {r : Bool} {tt t2 : TypeId} {ms : Array (String × TypeId)} (hu : P.underlying tt = some (.interface ms)) (ho : nthO ops i = some ⟨some t, .binOp op tt x y t2, ty, pos, af, gd⟩) (h : At R d As (gr fn kd n (put e t (.bool (true == r))) ds (.inRegion ops rest :: k) cs))
    (hl : (isK x || isK y) = true := by rfl) (hop : isEq op = some r := by rfl) (hx : ev n e x = .nilIface := by rfl) (hy : ev n e y = .nilIface := by rfl) (hw : wantB ops n e gd = true := by rfl) : At R d As (gr fn kd n e ds (.inRegion ops (i :: rest) :: k) cs) :=
  C.v0 ho h (by
    unfold execOp; simp only [hx, hy]
    refine ev0_do (a := .bool (true == r)) ?_ rfl
    have h0 : ev0 P (Op.equal tt .nilIface .nilIface) = some true := by
      unfold Op.equal
      show ev0 P (Op.equalIn (9998 + 1 + 1) _ _ _) = _
      unfold Op.equalIn
      exact ev0_do (ev0_und hu) rfl
    cases op <;> first | (cases hop; done) | skip
    · obtain rfl := Option.some.inj hop
      refine ev0_do (a := ()) (by cases x <;> cases y <;> first | rfl | (cases hl; done)) ?_
      exact ev0_do h0 rfl
    · obtain rfl := Option.some.inj hop
      refine ev0_do (a := ()) (by cases x <;> cases y <;> first | rfl | (cases hl; done)) ?_
      exact ev0_do h0 rfl) hw
theorem Closed.eqS (C : Closed P main B R) {op : BinOp} {r : Bool} {tt t2 el : TypeId} [cE : El P tt el] {a : Option Addr} {len cap : Nat} (ho : nthO ops i = some ⟨some t, .binOp op tt x y t2, ty, pos, af, gd⟩) (h : At R d As (gr fn kd n (put e t (.bool (a.isNone == r))) ds (.inRegion ops rest :: k) cs))
    (hop : isEq op = some r := by rfl) (hx : ev n e x = .slice a len cap := by rfl) (hy : ev n e y = .slice none 0 0 := by rfl) (hw : wantB ops n e gd = true := by rfl) : At R d As (gr fn kd n e ds (.inRegion ops (i :: rest) :: k) cs) :=
  C.v0 ho h (by
    unfold execOp; simp only [hx, hy]
    refine ev0_do (a := .bool (a.isNone == r)) ?_ rfl
    have h0 : ev0 P (Op.equal tt (.slice a len cap) (.slice none 0 0)) = some a.isNone := by
      unfold Op.equal
      show ev0 P (Op.equalIn (9998 + 1 + 1) _ _ _) = _
      unfold Op.equalIn
      refine ev0_do (ev0_und cE.h) ?_
      cases a <;> rfl
    cases op <;> first | (cases hop; done) | skip
    · obtain rfl := Option.some.inj hop
      refine ev0_do (a := ()) (by unfold eqGuard; rfl) ?_
      refine ev0_do h0 ?_
      cases a <;> rfl
    · obtain rfl := Option.some.inj hop
      refine ev0_do (a := ()) (by unfold eqGuard; rfl) ?_
      refine ev0_do h0 ?_
      cases a <;> rfl) hw
theorem Closed.bs0 (C : Closed P main B R) {α : Type} (f : α → List Value) {tt el z : Nat} [cE : El P tt el] [Cz P el z] (ho : nthO ops i = some ⟨some t, .buildSlice tt 0 #[], ty, pos, af, gd⟩)
    (h : ∀ b, At R d (slP f z el ⟨some ⟨b, 0, none⟩, 0, 0⟩ [] :: As) (gr fn kd n (put e t (SliceV.v ⟨some ⟨b, 0, none⟩, 0, 0⟩)) ds (.inRegion ops rest :: k) cs)) (hw : wantB ops n e gd = true := by rfl) : At R d As (gr fn kd n e ds (.inRegion ops (i :: rest) :: k) cs) :=
  C.gen ho hw fun H s => by
    unfold execOp; simp only [Instr.buildSlice]
    refine okS_do (okS_do (pu_und cE.h B H d _ ?_))
    refine okS_do (pu_size B H d _ ?_)
    simp only [Nat.zero_mul, if_true]
    rw [if_neg (by omega)]
    refine okS_do ?_
    refine okS_pure ?_
    have e2 : (Array.map (fun x : Nat × Operand => (x.fst, ev n e x.snd)) #[]).toList = [] := by simp
    rw [e2]
    show okS P B (newRow el _ >>= fun a => pure (Value.slice (some a) 0 0)) H d _
    refine okS_do ?_
    unfold newRow
    refine okS_do ?_
    show okS P B (.new _ _) H d _
    simp only [okS]
    show okS P B (pure _) _ d _
    refine okS_pure (okS_pure ⟨_, (s.push _).imp (fun hh x => ?_), h _⟩)
    refine .inr ⟨_, [], rfl, by simp, by simp, ?_⟩
    have e1 : Array.map (fun x => (#[] : Array Value)[x % (#[] : Array Value).size]!) (Array.range 0) = rowA f [] [] := by simp [rowA, flat]
    rw [← e1]; exact x
theorem Closed.ldG (C : Closed P main B R) {tt el b off : Nat} {c : Array Value} {fr : Nat × Nat} {I : HL} {L : List HP} [Ag P tt false] (hf : Fo (imm I) As L) (hI : I b = some (.cells c el fr)) (hs : B.sh el off = false) (ho : nthO ops i = some ⟨some t, .load tt x, ty, pos, af, gd⟩) (h : At R d As (gr fn kd n (put e t v) ds (.inRegion ops rest :: k) cs))
    (hx : ev n e x = .pointer (some ⟨b, off, none⟩) := by rfl) (hc : c[off]? = some v := by rfl) (hw : wantB ops n e gd = true := by rfl) : At R d As (gr fn kd n e ds (.inRegion ops (i :: rest) :: k) cs) :=
  C.gen ho hw fun H st => by
    have hg : hp H b = some (.cells c el fr) := (st.perm hf.perm).getI hI
    unfold execOp; simp only [hx, Instr.loadAt, Instr.sureAddr]
    exact okS_do (okS_do (okS_pure (okS_loadVar1 hg hc hs ⟨As, st, h⟩)))
end
end Go.Sl
end
section
set_option linter.unusedVariables false
namespace Go.Sl
open Go.Conc
section
variable {P : Program} {main : Bool} {Z : World → Prop} {W : Nat → Goroutine → Prop} {q : Nat} {fn : FuncId} {kd : Kd} {n : Nat} {e : Nat → Value} {ds : List Deferred} {k : List Item} {cs : List Frame}
variable {ops : Array Oper} {i : Nat} {rest : List Nat} {dst : Option Nat} {t : Nat} {ty : TypeId} {pos : String} {af : Array Edge} {gd : Option (Nat × Bool)} {x y z : Operand}
variable {f : FuncId} {fu : Func} {args : Array Operand} {ats : Array TypeId}
theorem Mt.xk (M : Mt P main Z W) {v : Value} [b : Ext_ P f fu (fun _ => pure v)] (ho : nthO ops i = some ⟨dst, .call ⟨.value (.func f), args, ats⟩, ty, pos, af, gd⟩) (h : W q (gr fn kd n (putO e dst v) ds (.inRegion ops rest :: k) cs)) (hw : wantB ops n e gd = true := by rfl) : W (q + 1) (gr fn kd n e ds (.inRegion ops (i :: rest) :: k) cs) :=
  M.s _ _ _ rfl (fun w _ => by
    rw [gr_at, gr_at, ← act_put]
    exact stepG_entry (o := ⟨dst, .call ⟨.value (.func f), args, ats⟩, ty, pos, af, gd⟩) (by rw [nthO_eq]; exact ho) (by rw [wanted_eq]; exact hw) bs_early rfl b.func b.name b.body b.nx b.fd (by simp) (by simp) (by simp)) h
theorem stepG_m0D (m : Mark) [b : Ext_ P f fu (fun _ => do mark m; pure Extern.Race.none_)] {av : Array Value} {todo : List Item} (hm : ∀ g, m ≠ .extern g) (w : World) :
    stepG P main (grR fn kd n e (⟨.fn (.func f) #[], av⟩ :: ds) todo cs) w = .go (grR fn kd n e ds todo cs) w #[evm m] :=
  stepG_unwind_entry (b := bs fn kd) (a := ⟨tm n e, ⟨.fn (.func f) #[], av⟩ :: ds⟩) (todo := todo) (cs := cs) (ds := ds) (f := f) (args := av) (v := .tuple #[]) rfl b.func b.name b.body b.nx b.fd (by simp [Extern.Race.none_]) (by simp) (by
    intro x hx
    simp at hx
    subst hx
    exact ⟨rfl, fun g h => hm g (by cases h; rfl)⟩)
variable {G : Grp}
theorem cl_rel {g g' : Goroutine} (hs : g.status = .running) (h : ∀ w, stepG P false g w = .go g' w #[evm (.releaseMerge G.st)]) (k : Cl P G q .dis g') : Cl P G (q + 1) .rel g := ⟨hs, .inr ⟨g', h, k⟩⟩
theorem cl_dis {g g' : Goroutine} (hs : g.status = .running) (h : ∀ w, stepG P false g w = .go g' w #[evm .disable]) (k : Cl P G q .add g') : Cl P G (q + 1) .dis g := ⟨hs, .inr ⟨g', h, k⟩⟩
theorem cl_add {g : Goroutine} (g' : Nat → Nat → Goroutine) (hs : g.status = .running) (h : ∀ w v wt, v ≤ 3 → wt ≤ 1 → w.cell? G.st = some (stV (v + 1) wt) → w.frozen? G.st = false → stepG P false g w = .go (g' v wt) (w.setCell G.st (stV v wt)) #[ar G.st, aw G.st])
    (k1 : Cl P G q .ld (g' 0 1)) (k2 : ∀ v wt, v ≤ 3 → wt ≤ 1 → ¬ (v = 0 ∧ wt = 1) → QuitsD P q 1 (g' v wt)) : Cl P G (q + 1) .add g := ⟨hs, .inr ⟨g', h, k1, k2⟩⟩
theorem cl_addA [b : Ext_ P f fu (Extern.Atomic.update (Op.intArith .add) .u64 true)] (ho : nthO ops i = some ⟨dst, .call ⟨.value (.func f), #[x, y], ats⟩, ty, pos, af, gd⟩) (k1 : Cl P G q .ld (gr fn kd n (putO e dst (stV 0 1)) ds (.inRegion ops rest :: k) cs))
    (k2 : ∀ v wt, v ≤ 3 → wt ≤ 1 → ¬ (v = 0 ∧ wt = 1) → QuitsD P q 1 (gr fn kd n (putO e dst (stV v wt)) ds (.inRegion ops rest :: k) cs)) (hx : ev n e x = .pointer (some G.st) := by rfl) (hy : ev n e y = .int .u64 18446744069414584320 := by rfl) (hw : wantB ops n e gd = true := by rfl) : Cl P G (q + 1) .add (gr fn kd n e ds (.inRegion ops (i :: rest) :: k) cs) := by
  refine cl_add (fun v wt => gr fn kd n (putO e dst (stV v wt)) ds (.inRegion ops rest :: k) cs) rfl (fun w v wt hv hw' hc hz => ?_) k1 k2
  have := stepG_aA (P := P) (f := f) (main := false) (fn := fn) (kd := kd) (ds := ds) (k := k) (cs := cs) (rest := rest) (kk := .u64) (v := ((v + 1 : Nat) : Int) * KQ + wt) (d := 18446744069414584320) ho hw hx hy hc hz
  have e1 : IntKind.u64.wrap (((v + 1 : Nat) : Int) * KQ + wt + 18446744069414584320) = (v : Int) * KQ + wt := by
    have : (2 ^ IntKind.u64.bits : Int) = 18446744073709551616 := by decide
    simp only [IntKind.wrap, KQ, this]
    rw [if_neg (by simp [IntKind.signed])]
    omega
  rw [e1] at this
  exact this
theorem cl_ld {g g' : Goroutine} (hs : g.status = .running) (h : ∀ w, w.cell? G.st = some (stV 0 1) → stepG P false g w = .go g' w #[ar G.st]) (k : Cl P G q .sto g') : Cl P G (q + 1) .ld g := ⟨hs, .inr ⟨g', h, k⟩⟩
theorem cl_sto {g g' : Goroutine} (hs : g.status = .running) (h : ∀ w, w.cell? G.st = some (stV 0 1) → w.frozen? G.st = false → stepG P false g w = .go g' (w.setCell G.st (stV 0 0)) #[aw G.st]) (k : Cl P G q .sem g') : Cl P G (q + 1) .sto g := ⟨hs, .inr ⟨g', h, k⟩⟩
theorem cl_sem {g g' : Goroutine} (hs : g.status = .running) (hm : mayWake P g = true) (h : ∀ w, w.cell? G.sm = some (smV 0) → w.frozen? G.sm = false → stepG P false g w = .go g' (w.setCell G.sm (smV 1)) (semEvents G.sm)) (k : QuitsD P q 1 g') : Cl P G (q + 1) .sem g := ⟨hs, .inr ⟨hm, g', h, k⟩⟩
theorem wake_ext {ex : Array Value → Sem Value} [b : Ext_ P f fu ex] (ho : nthO ops i = some ⟨dst, .call ⟨.value (.func f), args, ats⟩, ty, pos, af, gd⟩) : mayWake P (gr fn kd n e ds (.inRegion ops (i :: rest) :: k) cs) = true := by
  have ho' : ops[i]? = some ⟨dst, .call ⟨.value (.func f), args, ats⟩, ty, pos, af, gd⟩ := by rw [nthO_eq]; exact ho
  have h1 : (P.funcs[f]?).any (·.body.isSome) = false := by
    rw [b.func]
    have := b.body
    cases hb : fu.body with
    | none => simp [hb]
    | some c => rw [hb] at this; cases this
  unfold mayWake
  simp only [gr, frm, ho', Option.map_some]
  simp [Frame.eval, h1]
theorem quits_ena {g g' : Goroutine} (hs : g.status = .running) (h : ∀ w, stepG P false g w = .go g' w #[evm .enable]) (k : QuitsD P q 0 g') : QuitsD P (q + 1) 1 g := .inr ⟨hs, g', _, fun e he => by simp at he; subst he; rfl, h, k⟩
theorem quits_end : QuitsD P (q + 1) 0 (backD (base P []) []) := QuitsD.mono' (quitsBase rfl) (by omega)
variable {Fin : Goroutine → Prop}
theorem stV_ne {v v' : Nat} (h : v' < v) : ((v' : Int) * KQ + (0 : Nat)) ≠ ((v : Int) * KQ + (0 : Nat)) := by unfold KQ; omega
theorem mw_dis [b : Ext_ P f fu (fun _ => do mark .disable; pure Extern.Race.none_)] {c : Nat} (ho : nthO ops i = some ⟨dst, .call ⟨.value (.func f), args, ats⟩, ty, pos, af, gd⟩) (h : MW P G Fin (.head c) (gr fn kd n (putO e dst (.tuple #[])) ds (.inRegion ops rest :: k) cs)) (hw : wantB ops n e gd = true := by rfl) : MW P G Fin (.dis c) (gr fn kd n e ds (.inRegion ops (i :: rest) :: k) cs) :=
  .dis rfl (fun w => stepG_m0 .disable ho hw (by intro g; simp) w) h
theorem mw_load [b : Ext_ P f fu (Extern.Atomic.loadT (.int .u64))] {c : Nat} (ho : nthO ops i = some ⟨dst, .call ⟨.value (.func f), #[x], ats⟩, ty, pos, af, gd⟩) (k0 : MW P G Fin .ena (gr fn kd n (putO e dst (stV 0 0)) ds (.inRegion ops rest :: k) cs)) (k1 : ∀ v, 1 ≤ v → v ≤ c → MW P G Fin (.cas v) (gr fn kd n (putO e dst (stV v 0)) ds (.inRegion ops rest :: k) cs))
    (hx : ev n e x = .pointer (some G.st) := by rfl) (hw : wantB ops n e gd = true := by rfl) : MW P G Fin (.head c) (gr fn kd n e ds (.inRegion ops (i :: rest) :: k) cs) :=
  .load (fun v => gr fn kd n (putO e dst (stV v 0)) ds (.inRegion ops rest :: k) cs) rfl (fun w v _ hc => stepG_aL ho hw hx hc) k0 k1
theorem mw_cas [b : Ext_ P f fu (Extern.Atomic.casT (.int .u64))] {v : Nat} (ho : nthO ops i = some ⟨dst, .call ⟨.value (.func f), #[x, y, z], ats⟩, ty, pos, af, gd⟩) (k1 : MW P G Fin .reg (gr fn kd n (putO e dst (.bool true)) ds (.inRegion ops rest :: k) cs)) (k2 : MW P G Fin (.head (v - 1)) (gr fn kd n (putO e dst (.bool false)) ds (.inRegion ops rest :: k) cs))
    (hx : ev n e x = .pointer (some G.st) := by rfl) (hy : ev n e y = stV v 0 := by rfl) (hz : ev n e z = stV v 1 := by rfl) (hw : wantB ops n e gd = true := by rfl) : MW P G Fin (.cas v) (gr fn kd n e ds (.inRegion ops (i :: rest) :: k) cs) :=
  .cas rfl (fun w hc hf => stepG_aC ho hw hx hy hz hc hf) (fun w v' hv hc hf => stepG_aM ho hw hx hy hz hc hf (stV_ne hv)) k1 k2
theorem mw_said [b : Ext_ P f fu (Extern.Race.marked .write)] (ho : nthO ops i = some ⟨dst, .call ⟨.value (.func f), args, ats⟩, ty, pos, af, gd⟩) (h : MW P G Fin .reg (gr fn kd n (putO e dst (.tuple #[])) ds (.inRegion ops rest :: k) cs)) (hx : (args.toList.map (ev n e))[0]? = some (.pointer (some G.sm)) := by rfl) (hw : wantB ops n e gd = true := by rfl) : MW P G Fin .reg (gr fn kd n e ds (.inRegion ops (i :: rest) :: k) cs) :=
  .said rfl (fun w => stepG_mA .write ho hw (by intro ad g; simp) hx w) h
theorem mw_sem [b : Ext_ P f fu Extern.Sync.semacquire] (ho : nthO ops i = some ⟨dst, .call ⟨.value (.func f), args, ats⟩, ty, pos, af, gd⟩) (h : MW P G Fin .last (gr fn kd n (putO e dst (.tuple #[])) ds (.inRegion ops rest :: k) cs)) (hx : (args.toList.map (ev n e))[0]? = some (.pointer (some G.sm)) := by rfl) (hw : wantB ops n e gd = true := by rfl) : MW P G Fin .reg (gr fn kd n e ds (.inRegion ops (i :: rest) :: k) cs) :=
  .sem rfl rfl (fun w hc => stepG_sW ho hw hx hc) (fun w hc hz => stepG_sA ho hw hx hc (by decide) hz) h
theorem mw_last [b : Ext_ P f fu (Extern.Atomic.loadT (.int .u64))] (ho : nthO ops i = some ⟨dst, .call ⟨.value (.func f), #[x], ats⟩, ty, pos, af, gd⟩) (h : MW P G Fin .ena (gr fn kd n (putO e dst (stV 0 0)) ds (.inRegion ops rest :: k) cs)) (hx : ev n e x = .pointer (some G.st) := by rfl) (hw : wantB ops n e gd = true := by rfl) : MW P G Fin .last (gr fn kd n e ds (.inRegion ops (i :: rest) :: k) cs) :=
  .last rfl (fun w hc => stepG_aL ho hw hx hc) h
theorem mw_ena [b : Ext_ P f fu (fun _ => do mark .enable; pure Extern.Race.none_)] (ho : nthO ops i = some ⟨dst, .call ⟨.value (.func f), args, ats⟩, ty, pos, af, gd⟩) (h : MW P G Fin .acq (gr fn kd n (putO e dst (.tuple #[])) ds (.inRegion ops rest :: k) cs)) (hw : wantB ops n e gd = true := by rfl) : MW P G Fin .ena (gr fn kd n e ds (.inRegion ops (i :: rest) :: k) cs) :=
  .ena rfl (fun w => stepG_m0 .enable ho hw (by intro g; simp) w) h
theorem mw_acq [b : Ext_ P f fu (Extern.Race.marked .acquire)] (ho : nthO ops i = some ⟨dst, .call ⟨.value (.func f), args, ats⟩, ty, pos, af, gd⟩) (h : Fin (gr fn kd n (putO e dst (.tuple #[])) ds (.inRegion ops rest :: k) cs)) (hx : (args.toList.map (ev n e))[0]? = some (.pointer (some G.st)) := by rfl) (hw : wantB ops n e gd = true := by rfl) : MW P G Fin .acq (gr fn kd n e ds (.inRegion ops (i :: rest) :: k) cs) :=
  .acq rfl (fun w => stepG_mA .acquire ho hw (by intro ad g; simp) hx w) h
end
section
variable {P : Program} {main : Bool} {B : Bad} {R : Nat → Goroutine → Array Obj → Prop} {d : Nat} {As As' F : List HP}
variable {fn : FuncId} {kd : Kd} {n : Nat} {e : Nat → Value} {ds : List Deferred} {k : List Item} {cs : List Frame}
variable {ops : Array Oper} {i : Nat} {rest : List Nat} {dst : Option Nat} {t : Nat} {ty : TypeId} {pos : String} {af : Array Edge} {gd : Option (Nat × Bool)} {x y z : Operand} {v : Value}
theorem Closed.df (C : Closed P main B R) {f : FuncId} {a1 a2 : Array Value} {fo : Operand} {args : Array Operand} {ats : Array TypeId} {vl : List Value} (ho : nthO ops i = some ⟨dst, .defer ⟨.value fo, args, ats⟩, ty, pos, af, gd⟩)
    (h : At R d As (gr fn kd n (putO e dst undef) (⟨.fn (.func f) a2, a1 ++ vl.toArray⟩ :: ds) (.inRegion ops rest :: k) cs)) (hf : ev n e fo = .func (.func f) a1 a2 := by rfl) (hv : args.toList.map (ev n e) = vl := by rfl) (hw : wantB ops n e gd = true := by rfl) : At R d As (gr fn kd n e ds (.inRegion ops (i :: rest) :: k) cs) :=
  C.gen ho hw fun H s => by
    have hv' : args.map (ev n e) = vl.toArray := by rw [← hv, ← Array.toList_map, Array.toArray_toList]
    refine okS_ev0 (v := Next.defer ⟨.fn (.func f) a2, a1 ++ vl.toArray⟩) ?_ ?_
    rotate_left
    · exact ⟨As, s, h⟩
    unfold execOp
    simp only
    refine ev0_do (a := ⟨.fn (.func f) a2, a1 ++ vl.toArray⟩) ?_ rfl
    unfold resolve
    simp only [hf, Deferred.ofValue, hv']; rfl
theorem Closed.rtA (C : Closed P main B R) (h : At R d As (grR fn kd n e ds (.code .ret :: k) cs)) : At R d As (gr fn kd n e ds (.code .ret :: k) cs) := fun H s => C.ret (h H s)
theorem Closed.fnA (C : Closed P main B R) (h : At R d As (grR fn kd n e ds [] cs)) : At R d As (gr fn kd n e ds [] cs) := fun H s => C.fin (h H s)
theorem Closed.dEna (C : Closed P main B R) {f : FuncId} {fu : Func} [x : Ext_ P f fu (fun _ => do mark .enable; pure Extern.Race.none_)] {av : Array Value} {todo : List Item} (h : At R (d - 1) As (grR fn kd n e ds todo cs)) : At R d As (grR fn kd n e (⟨.fn (.func f) #[], av⟩ :: ds) todo cs) :=
  C.dfx (f := f) fun H s => by
    show okS P B (mark .enable >>= fun _ => pure Extern.Race.none_) H d _
    refine okS_do ?_
    simp only [mark, okS, markOk, deafBy, true_and]
    exact okS_pure ⟨As, s, h⟩
theorem Closed.retC (C : Closed P main B R) {fu : Func} {cc : Code} {n' : Nat} [b : Body P fn fu cc n'] {slot t0 bb z : Nat} {el : TypeId} {xs : Array Value} [Ag P t0 true] [Cz P t0 z] {c : Frame} {w : Code} {Q : Value → List HP → Prop} {A : List HP} (hr : fu.results = #[.cell slot t0]) (hkd : KdOk kd c) (hret : ∀ v As', Q v As' → At R d (As' ++ F) (after kd c cs v)) (q : Q (.agg xs) A)
    (he : ev n e (.tmp slot) = .pointer (some ⟨bb, 0, none⟩) := by rfl) (hh : Kn As bb (.cells xs el (0, 0)) := by apply Has.kn; (repeat (first | with_reducible exact Has.head | with_reducible apply Has.tail)); done) (hsz : xs.size = z := by rfl) (hs : ∀ j, B.sh el j = false := by intro j; rfl) (hx : ck w = .ret := by rfl)
    (hA : Reo As (A ++ F) := by (try simp only [List.cons_append, List.nil_append]); repeat (first | with_reducible exact Reo.refl | with_reducible exact Reo.nil | with_reducible exact Fo.head | with_reducible apply Fo.tail | with_reducible apply Reo.cons | with_reducible apply Reo.drop)) : At R d As (gr fn kd n e [] (.code w :: k) (c :: cs)) := fun H s => by
  have zz := ck_inv hx; simp only at zz; subst zz
  have hg := hh _ s
  have key : ∀ {Q' : Value → Array Obj → Nat → Prop}, Q' (.agg xs) H d → okS P B (results fu (tm n e)) H d Q' := fun q' => by
    unfold results
    rw [hr, Array.mapM_eq_mapM_toList]
    simp only [List.mapM_cons, List.mapM_nil, map_eq_pure_bind, bind_assoc, pure_bind, tm_getD]
    have he' : (if slot < n then e slot else undef) = .pointer (some ⟨bb, 0, none⟩) := he
    rw [he']
    refine okS_do (okS_ev0 (v := (⟨bb, 0, none⟩ : Addr)) rfl ?_)
    refine okS_do (okS_loadVarS hg (by omega) hs ?_)
    have e1 : xs.extract 0 (0 + z) = xs := by rw [Nat.zero_add, ← hsz]; simp
    rw [e1]
    exact q'
  have hfin : R d (after kd c cs (.agg xs)) H := At.reo hA (hret _ A q) H s
  refine C.ret ?_
  cases kd with
  | nor => exact C.back b.func (key hfin)
  | dfr => exact C.backDef hkd b.func (key hfin)
theorem Sat.apartG {A : HP} {b x : Nat} {o : Obj} {L : List HP} {h : HL} (ha : ∀ h, A h → ∃ o', h b = some o') (s : Sat (A :: pts x o :: L) h) : b ≠ x := fun e => by
  subst e
  obtain ⟨h1, a, _, h2, p, s2, _⟩ := s
  obtain ⟨o', ho⟩ := ha _ a
  have h2' : h2 b = some o := by
    have p : h2 = one b o := p
    rw [p]; simp [one]
  have := s2 b o h2'
  unfold Sl.less at this
  rw [ho] at this
  simp at this
theorem At.apart {b x : Nat} {o o' : Obj} {g : Goroutine} {L : List HP} (hf : ReF [pts b o', pts x o] As L) (h : b ≠ x → At R d As g) : At R d As g := fun H st =>
  h (Sat.apartG (fun h e => ⟨o', by have e : h = one b o' := e; rw [e]; simp [one]⟩) (st.perm hf.perm)) H st
theorem At.apartS {α : Type} {f : α → List Value} {z : Nat} {el : TypeId} {s : SliceV} {l : List α} {x : Nat} {o : Obj} {g : Goroutine} {L : List HP} (hf : ReF [slP f z el s l, pts x o] As L) (h : (∀ b, s.a = some ⟨b, 0, none⟩ → b ≠ x) → At R d As g) : At R d As g := fun H st =>
  h (fun b hb => Sat.apartG (fun h e => by
    rcases e with ⟨rfl, _⟩ | ⟨b', pad, e, _, _, hp⟩
    · cases hb
    · rw [e] at hb
      obtain rfl : b' = b := by simpa using hb
      have hp : h = one b' _ := hp
      exact ⟨_, by rw [hp]; simp [one]; rfl⟩) (st.perm hf.perm)) H st
end
section
variable {R : Nat → Goroutine → Array Obj → Prop} {d : Nat} {fn : FuncId} {kd : Kd} {n : Nat} {ds : List Deferred} {ops : Array Oper} {k : List Item} {cs : List Frame} {e0 : Nat → Value} {D : List (Nat × Nat)} {W : List HP} {S : List SE}
theorem Ch.nx {f : Nat} {T' l : List Nat} {a : Nat} {K : List SE} {As : List HP} (hc : cand ops T' = l) (h : ∀ t ∈ l, Nd R d fn kd n ds ops k cs e0 D W S (fun K As => Ch R d fn kd n ds ops k cs e0 D W f S (T'.erase t) (a - 1) K As) t a K As) : Ch R d fn kd n ds ops k cs e0 D W (f + 1) S T' a K As := .inl fun t ht => h t (hc ▸ ht)
theorem fa1 {α : Type} {φ : α → Prop} {a : α} (h1 : φ a) : ∀ t ∈ [a], φ t := by simpa using h1
theorem fa2 {α : Type} {φ : α → Prop} {a b : α} (h1 : φ a) (h2 : φ b) : ∀ t ∈ [a, b], φ t := by simpa using ⟨h1, h2⟩
theorem fa3 {α : Type} {φ : α → Prop} {a b c : α} (h1 : φ a) (h2 : φ b) (h3 : φ c) : ∀ t ∈ [a, b, c], φ t := by simpa using ⟨h1, h2, h3⟩
theorem fa4 {α : Type} {φ : α → Prop} {a b c d : α} (h1 : φ a) (h2 : φ b) (h3 : φ c) (h4 : φ d) : ∀ t ∈ [a, b, c, d], φ t := by simpa using ⟨h1, h2, h3, h4⟩
end
section
variable {P : Program} {Post : Value → World → Prop} {X : Bar} {σ : Gh} {os : Os} {out : Array (Nat × ByteArray)} {As F : List HP}
variable {fn : FuncId} {kd : Kd} {n : Nat} {e : Nat → Value} {ds : List Deferred} {k : List Item} {cs : List Frame}
variable {ops : Array Oper} {i : Nat} {rest : List Nat} {dst : Option Nat} {ty : TypeId} {pos : String} {af : Array Edge} {gd : Option (Nat × Bool)}
theorem RunR.clN {f : FuncId} {fu : Func} {c : Code} {nf : Nat} [b : Body P f fu c nf] {fo : Operand} {args : Array Operand} {ats : Array TypeId} {vl : List Value} {A : List HP} {Q : Value → Gh → List HP → Prop} (hs : SpecG P X f vl.toArray σ A Q)
    (h : ∀ v σ' As', Q v σ' As' → At (RunR P Post X σ' 0 os out) 0 (As' ++ F) (gr fn kd n (putO e dst v) ds (.inRegion ops rest :: k) cs))
    (ho : nthO ops i = some ⟨dst, .call ⟨.value fo, args, ats⟩, ty, pos, af, gd⟩ := by rfl) (hv : args.toList.map (ev n e) = vl := by rfl) (hf : ev n e fo = .func (.func f) #[] #[] := by rfl)
    (hr : ReF A As F := by repeat (first | with_reducible exact ReF.nil | with_reducible exact Fo.head | with_reducible apply Fo.tail | with_reducible apply ReF.cons)) (hw : wantB ops n e gd = true := by rfl) : At (RunR P Post X σ 0 os out) 0 As (gr fn kd n e ds (.inRegion ops (i :: rest) :: k) cs) :=
  RunR.cl (a1 := #[]) (a2 := #[]) (vl := vl) (by simpa using hs) h ho hv hf hr hw
theorem RunR.retQ {fu : Func} {cc : Code} {n' : Nat} [b : Body P fn fu cc n'] {c : Frame} {v : Value} {x : Code} {Q : Value → Gh → List HP → Prop} {A : List HP} (hkd : KdOk kd c) (hret : ∀ v σ' As', Q v σ' As' → At (RunR P Post X σ' 0 os out) 0 (As' ++ F) (after kd c cs v)) (q : Q v σ A) (hv : resV fu n e = some v := by rfl) (hx : ck x = .ret := by rfl)
    (hr : Reo As (A ++ F) := by (try simp only [List.cons_append, List.nil_append]); repeat (first | with_reducible exact Reo.refl | with_reducible exact Reo.nil | with_reducible exact Fo.head | with_reducible apply Fo.tail | with_reducible apply Reo.cons | with_reducible apply Reo.drop)) : At (RunR P Post X σ 0 os out) 0 As (gr fn kd n e [] (.code x :: k) (c :: cs)) := by
  have C : Closed P true (X.bw σ) (RunR P Post X σ 0 os out) := RunR.closed0
  exact C.ret0 hkd (At.reo hr (hret v σ A q)) hv hx
end
end Go.Sl
end
section
set_option linter.unusedVariables false
namespace Go.Sl
open Go.Proofs
def errG (k : Nat) : Nat := [0, 1, 2, 5, 6, 7, 8, 9, 3].getD k 0
abbrev errV (a : Nat × Nat) : Value := .iface 339 (.pointer (some ⟨a.1, a.2, none⟩))
structure ErrI (I : HL) (eb : Nat → Nat × Nat) : Prop where
  g : ∀ k, k < 9 → ∃ t, I (errG k) = some (.cells #[errV (eb k)] t (0, 0))
  e : ∀ k, k < 9 → ∃ c t, I (eb k).1 = some (.cells c t (0, 0))
  inj : ∀ j k, j < 9 → k < 9 → eb j = eb k → j = k
  ty : ∃ t, I 4 = some (.cells #[.iface 231 (.agg #[typeHandle Tryz.prog 46])] t (0, 0))
theorem ErrI.mono {I I' : HL} {eb : Nat → Nat × Nat} (h : ErrI I eb) (hs : Sub I I') : ErrI I' eb :=
  ⟨fun k hk => by obtain ⟨t, ht⟩ := h.g k hk; exact ⟨t, hs _ _ ht⟩, fun k hk => by obtain ⟨c, t, ht⟩ := h.e k hk; exact ⟨c, t, hs _ _ ht⟩, h.inj, by obtain ⟨t, ht⟩ := h.ty; exact ⟨t, hs _ _ ht⟩⟩
theorem shG0 (t : TypeId) : shG t 0 = false := by simp [shG]
def errO (eb : Nat → Nat × Nat) : Option Nat → Value
  | none => .nilIface
  | some k => errV (eb k)
end Go.Sl
end
section
set_option linter.unusedVariables false
namespace Go.Sl
open Go.Conc
section
variable {P : Program} {main : Bool} {B : Bad} {R : Nat → Goroutine → Array Obj → Prop} {d : Nat} {As As' F : List HP}
variable {fn : FuncId} {kd : Kd} {n : Nat} {e : Nat → Value} {ds : List Deferred} {k : List Item} {cs : List Frame}
variable {ops : Array Oper} {i : Nat} {rest : List Nat} {dst : Option Nat} {t : Nat} {ty : TypeId} {pos : String} {af : Array Edge} {gd : Option (Nat × Bool)} {x y z : Operand} {v : Value}
theorem Closed.xi (C : Closed P main B R) {f : FuncId} {fu : Func} {ex : Array Value → Sem Value} [b : Ext_ P f fu ex] {recv : Operand} {name : String} {args : Array Operand} {ats : Array TypeId} {vl : List Value} {t0 : TypeId} {v0 rv : Value} (hm : ev0 P (method (P.types.size + Made.depth) t0 v0 name) = some (f, rv))
    (h : ∀ H, Sat As (hp H) → okS P B (ex (#[rv] ++ vl.toArray)) H d fun v H' d' => ∃ As', Sat As' (hp H') ∧ At R d' As' (gr fn kd n (putO e dst v) ds (.inRegion ops rest :: k) cs))
    (ho : nthO ops i = some ⟨dst, .call ⟨.invoke recv name, args, ats⟩, ty, pos, af, gd⟩ := by rfl) (hr : ev n e recv = .iface t0 v0 := by rfl) (hv : args.toList.map (ev n e) = vl := by rfl) (hw : wantB ops n e gd = true := by rfl) : At R d As (gr fn kd n e ds (.inRegion ops (i :: rest) :: k) cs) := by
  refine C.gen ho hw fun H s => ?_
  unfold execOp
  simp only
  refine okS_do ?_
  have hv' : args.map (ev n e) = vl.toArray := by rw [← hv, ← Array.toList_map, Array.toArray_toList]
  simp only [resolve, hr, hv']
  refine okS_pure ?_
  show okS P B (invoke (.fn (.method name) #[]) (#[.iface t0 v0] ++ vl.toArray)) H d _
  unfold invoke
  have e1 : (#[Value.iface t0 v0] ++ vl.toArray)[0]? = some (.iface t0 v0) := by simp
  have e2 : (#[Value.iface t0 v0] ++ vl.toArray).extract 1 (#[Value.iface t0 v0] ++ vl.toArray).size = vl.toArray := by simp
  simp only [e1, e2]
  unfold callMethod
  simp only
  refine okS_do (okS_ev0 (v := P) rfl ?_)
  refine okS_do (okS_ev0 hm ?_)
  simp only
  unfold callFunc
  refine okS_do ?_
  show okS P B _ H d _
  simp only [program, okS]
  rw [b.func]
  simp only [b.name, b.body, if_true, Bool.false_eq_true, if_false]
  refine okS_do ?_
  simp only [mark, okS, markOk, deafBy, true_and]
  simp only [b.nx, b.fd]
  refine okS_do (okS_mono (fun v H' d' q => ?_) (h H s))
  obtain ⟨As', s', q⟩ := q
  exact okS_pure ⟨As', s', q⟩
theorem Closed.xi0 (C : Closed P main B R) {f : FuncId} {fu : Func} {ex : Array Value → Sem Value} [b : Ext_ P f fu ex] {recv : Operand} {name : String} {args : Array Operand} {ats : Array TypeId} {vl : List Value} {t0 : TypeId} {v0 rv : Value} (hm : ev0 P (method (P.types.size + Made.depth) t0 v0 name) = some (f, rv)) (hx : ev0 P (ex (#[rv] ++ vl.toArray)) = some v)
    (h : At R d As (gr fn kd n (putO e dst v) ds (.inRegion ops rest :: k) cs)) (ho : nthO ops i = some ⟨dst, .call ⟨.invoke recv name, args, ats⟩, ty, pos, af, gd⟩ := by rfl) (hr : ev n e recv = .iface t0 v0 := by rfl) (hv : args.toList.map (ev n e) = vl := by rfl) (hw : wantB ops n e gd = true := by rfl) : At R d As (gr fn kd n e ds (.inRegion ops (i :: rest) :: k) cs) :=
  C.xi hm (fun H s => okS_ev0 hx ⟨As, s, h⟩) ho hr hv hw
theorem Closed.mi0 (C : Closed P main B R) {f : FuncId} {fu : Func} {c : Code} {nf : Nat} [b : Body P f fu c nf] {recv : Operand} {name : String} {args : Array Operand} {ats : Array TypeId} {vl : List Value} {t0 : TypeId} {v0 rv : Value} {A : List HP} {Q : Value → List HP → Prop} (hm : ev0 P (method (P.types.size + Made.depth) t0 v0 name) = some (f, rv)) (hs : Spec P main B f (rv :: vl).toArray A Q)
    (h : ∀ v As', Q v As' → At R d (As' ++ F) (gr fn kd n (putO e dst v) ds (.inRegion ops rest :: k) cs)) (ho : nthO ops i = some ⟨dst, .call ⟨.invoke recv name, args, ats⟩, ty, pos, af, gd⟩ := by rfl) (hr : ev n e recv = .iface t0 v0 := by rfl) (hv : args.toList.map (ev n e) = vl := by rfl)
    (hA : ReF A As F := by repeat (first | with_reducible exact ReF.nil | with_reducible exact Fo.head | with_reducible apply Fo.tail | with_reducible apply ReF.cons)) (hw : wantB ops n e gd = true := by rfl) : At R d As (gr fn kd n e ds (.inRegion ops (i :: rest) :: k) cs) := by
  have hv' : args.map (ev n e) = vl.toArray := by rw [← hv, ← Array.toList_map, Array.toArray_toList]
  refine C.en (o := ⟨dst, .call ⟨.invoke recv name, args, ats⟩, ty, pos, af, gd⟩) hs ?_ h ho hA hw
  unfold execOp
  simp only
  refine ev0_do (a := ⟨.fn (.method name) #[], #[.iface t0 v0] ++ vl.toArray⟩) ?_ ?_
  · unfold resolve
    simp only [hr, hv']; rfl
  · show ev0 P (invoke (.fn (.method name) #[]) (#[.iface t0 v0] ++ vl.toArray)) = _
    unfold invoke
    have e1 : (#[Value.iface t0 v0] ++ vl.toArray)[0]? = some (.iface t0 v0) := by simp
    have e2 : (#[Value.iface t0 v0] ++ vl.toArray).extract 1 (#[Value.iface t0 v0] ++ vl.toArray).size = vl.toArray := by simp
    simp only [e1, e2]
    unfold callMethod
    simp only
    refine ev0_do (a := P) rfl (ev0_do hm ?_)
    have e3 : #[rv] ++ vl.toArray = (rv :: vl).toArray := by simp
    simp only [e3]
    exact ev0_callFunc _
theorem Closed.taI (C : Closed P main B R) {xt tt t0 : TypeId} {want : Array (String × TypeId)} {inf : TypeInfo} {zv : Value} {mm : String} {vv : Value} (hu : P.underlying tt = some (.interface want)) (hi : P.info? t0 = some inf) (hmm : Instr.missingMethod want inf.methods = some mm) (hz : ∃ i, P.info? tt = some i ∧ i.zero = some zv) (ho : nthO ops i = some ⟨some t, .typeAssert x xt tt true, ty, pos, af, gd⟩)
    (h : At R d As (gr fn kd n (put e t (.tuple #[zv, .bool false])) ds (.inRegion ops rest :: k) cs)) (hx : ev n e x = .iface t0 vv := by rfl) (hw : wantB ops n e gd = true := by rfl) : At R d As (gr fn kd n e ds (.inRegion ops (i :: rest) :: k) cs) :=
  C.v0 ho h (by
    unfold execOp; simp only [hx]
    refine ev0_do (a := .tuple #[zv, .bool false]) ?_ rfl
    unfold Instr.typeAssert
    refine ev0_do (ev0_und hu) ?_
    simp only
    refine ev0_do (ev0_info hi) ?_
    simp only [hmm, if_true]
    exact ev0_do (ev0_zero hz) rfl) hw
theorem Closed.taY (C : Closed P main B R) {xt tt t0 : TypeId} {want : Array (String × TypeId)} {inf : TypeInfo} {vv : Value} (hu : P.underlying tt = some (.interface want)) (hi : P.info? t0 = some inf) (hmm : Instr.missingMethod want inf.methods = none) (ho : nthO ops i = some ⟨some t, .typeAssert x xt tt true, ty, pos, af, gd⟩)
    (h : At R d As (gr fn kd n (put e t (.tuple #[.iface t0 vv, .bool true])) ds (.inRegion ops rest :: k) cs)) (hx : ev n e x = .iface t0 vv := by rfl) (hw : wantB ops n e gd = true := by rfl) : At R d As (gr fn kd n e ds (.inRegion ops (i :: rest) :: k) cs) :=
  C.v0 ho h (by
    unfold execOp; simp only [hx]
    refine ev0_do (a := .tuple #[.iface t0 vv, .bool true]) ?_ rfl
    unfold Instr.typeAssert
    refine ev0_do (ev0_und hu) ?_
    simp only
    refine ev0_do (ev0_info hi) ?_
    simp only [hmm, if_true]
    rfl) hw
end
end Go.Sl
end
section
set_option linter.unusedVariables false
namespace Go.Sl
open Go.Proofs
instance : Ext_ Tryz.prog 106 Tryz.f106 ((Extern.find Tryz.f106).getD fun _ => pure undef) := ⟨Tryz.func106, rfl, rfl, by kernel_rfl, by kernel_rfl⟩
instance : Ext_ Tryz.prog 264 Tryz.f264 ((Extern.find Tryz.f264).getD fun _ => pure undef) := ⟨Tryz.func264, rfl, rfl, by kernel_rfl, by kernel_rfl⟩
abbrev hdV (t : TypeId) : Value := .pointer (some ⟨10, t, none⟩)
abbrev rtV (t : TypeId) : Value := .iface 231 (.agg #[hdV t])
theorem hdV_eq (t : TypeId) : typeHandle Tryz.prog t = hdV t := by
  have : Tryz.prog.globals.size = 10 := by kernel_rfl
  unfold typeHandle; rw [this]
theorem typeOf_err {v : Value} : ev0 Tryz.prog (((Extern.find Tryz.f106).getD fun _ => pure undef) ([.iface 339 v] : List Value).toArray) = some (rtV 339) := by kernel_rfl
theorem m_cmp : ev0 Tryz.prog (method (Tryz.prog.types.size + Made.depth) 231 (.agg #[hdV 339]) "Comparable") = some (264, .agg #[hdV 339]) := by kernel_rfl
theorem x_cmp : ev0 Tryz.prog (((Extern.find Tryz.f264).getD fun _ => pure undef) (#[.agg #[hdV 339]] ++ ([] : List Value).toArray)) = some (.bool true) := by kernel_rfl
end Go.Sl
end
section
set_option linter.unusedVariables false
namespace Go.Sl
open Go.Proofs
variable {main : Bool}
theorem miss1 {s : String} {sig : TypeId} {got : Array Method} (h : (got.toList.any fun m => m.name == s && m.sig == sig) = false) : ∃ mm, Instr.missingMethod #[(s, sig)] got = some mm := by
  have h' : (got.any fun m => m.name == s && m.sig == sig) = false := by rw [← h]; simp
  unfold Instr.missingMethod
  simp only [List.filter_cons, List.filter_nil, h', Bool.not_false, if_true, List.map_cons, List.map_nil]
  cases hc : s.contains (Char.ofNat 46)
  · exact ⟨s, by simp only [List.partition, List.partition.loop, hc]; rfl⟩
  · exact ⟨(s.splitOn ".").getLastD s, by simp only [List.partition, List.partition.loop, hc]; rfl⟩
theorem have1 {s : String} {sig : TypeId} {got : Array Method} (h : (got.toList.any fun m => m.name == s && m.sig == sig) = true) : Instr.missingMethod #[(s, sig)] got = none := by
  have h' : (got.any fun m => m.name == s && m.sig == sig) = true := by rw [← h]; simp
  unfold Instr.missingMethod
  simp [h', Instr.least]
theorem unwrap_spec {bE : Nat} {nm w : Value} {at_ : Int} : Spec Tryz.prog main badT 58 #[ptrV bE] [pts bE (.cells #[nm, .int .i64 at_, w] 132 (0, 0))] (fun v As => v = w ∧ As = [pts bE (.cells #[nm, .int .i64 at_, w] 132 (0, 0))]) := by
  refine Spec.of ?_
  intro R C kd d F c cs hkd hret
  simp only [List.cons_append, List.nil_append]
  refine C.go ?_
  refine C.rg [0] ?_
  refine C.asg rfl ?_
  refine C.go ?_
  refine C.rg [0, 1, 2, 3, 4] ?_
  refine C.mv rfl ?_
  refine C.nc rfl ?_
  refine C.fa rfl ?_
  refine C.ld rfl ?_
  refine C.asg rfl ?_
  refine C.go ?_
  exact C.retR hkd hret ⟨rfl, rfl⟩
theorem m_unw {bE : Nat} : ev0 Tryz.prog (method (Tryz.prog.types.size + Made.depth) 128 (ptrV bE) "Unwrap") = some (58, ptrV bE) := by kernel_rfl
instance : Pt Tryz.prog 339 359 := ⟨Tryz.underlying339⟩
instance : Cz Tryz.prog 359 1 := ⟨_, info_of Tryz.type359, rfl⟩
theorem eis_spec {I : HL} {eb : Nat → Nat × Nat} (hE : ErrI I eb) {bE j k : Nat} (hj : j < 9) (hk : k < 9) {nm : Value} {at_ : Int} : Spec Tryz.prog main badT 107 #[.iface 128 (ptrV bE), errV (eb j), .bool true] [pts bE (.cells #[nm, .int .i64 at_, errV (eb k)] 132 (0, 0)), imm I]
    (fun v As => v = .bool (decide (k = j)) ∧ As = [pts bE (.cells #[nm, .int .i64 at_, errV (eb k)] 132 (0, 0)), imm I]) := by
  refine Spec.of ?_
  intro R C kd d F c cs hkd hret
  simp only [List.cons_append, List.nil_append]
  obtain ⟨cj, tj, hcj⟩ := hE.e j hj
  obtain ⟨ck, tk, hck⟩ := hE.e k hk
  refine C.go ?_
  refine C.rg [0] ?_
  refine C.asg rfl ?_
  refine C.go ?_
  refine C.lp ?_
  refine C.go ?_
  refine C.rg [0, 1, 2, 3, 4, 5] ?_
  refine C.mv rfl ?_
  refine C.mv rfl ?_
  refine C.mv rfl ?_
  refine C.mv rfl ?_
  refine C.eqN Tryz.underlying46 rfl ?_
  obtain ⟨mm1, hm1⟩ := miss1 (s := "Is") (sig := 242) (got := Tryz.t128.methods) (by kernel_rfl)
  obtain ⟨mm2, hm2⟩ := miss1 (s := "Is") (sig := 242) (got := Tryz.t339.methods) (by kernel_rfl)
  refine C.pk rfl ?_
  refine C.go ?_
  refine C.fls ?_
  refine C.rg [0, 1, 2, 3, 4, 5, 6] ?_
  refine C.mv rfl ?_
  refine C.taI Tryz.underlying240 (info_of Tryz.type128) hm1 ⟨_, info_of Tryz.type240, rfl⟩ rfl ?_
  refine C.mv rfl ?_
  refine C.ext rfl ?_
  refine C.ext rfl ?_
  refine C.asg rfl ?_
  refine C.asg rfl ?_
  refine C.go ?_
  refine C.rg [0, 1, 2, 3, 4, 5] ?_
  refine C.mv rfl ?_
  refine C.mv rfl ?_
  refine C.no rfl ?_
  refine C.no rfl ?_
  refine C.no rfl ?_
  refine C.pk rfl ?_
  refine C.go ?_
  refine C.fls ?_
  refine C.rg [0] ?_
  refine C.mv rfl ?_
  refine C.go ?_
  refine C.rg [0, 1, 2] ?_
  refine C.taY Tryz.underlying238 (info_of Tryz.type128) (have1 (by kernel_rfl)) rfl ?_
  refine C.ext rfl ?_
  refine C.ext rfl ?_
  refine C.go ?_
  refine C.tru ?_
  refine C.rg [0] ?_
  refine C.asg rfl ?_
  refine C.go ?_
  refine C.rg [0, 1, 2] ?_
  refine C.mv rfl ?_
  refine C.mi0 m_unw unwrap_spec ?_
  rintro v As' ⟨rfl, rfl⟩
  simp only [List.cons_append, List.nil_append]
  refine C.asg rfl ?_
  refine C.go ?_
  refine C.rg [0, 1] ?_
  refine C.mv rfl ?_
  refine C.eqZ Tryz.underlying46 rfl ?_
  refine C.go ?_
  refine C.fls ?_
  refine C.ilp ?_
  refine C.go ?_
  refine C.rg [0, 1, 2, 3, 4, 5] ?_
  refine C.mv rfl ?_
  refine C.mv rfl ?_
  refine C.mv rfl ?_
  refine C.mv rfl ?_
  refine C.eqP Tryz.underlying46 (info_of Tryz.type339) rfl rfl ?_ (fun H s => (s.perm (Fo.perm (show Fo (imm I) _ _ from (by (repeat (first | with_reducible exact Fo.head | with_reducible apply Fo.tail)))))).getI hck) (fun H s => (s.perm (Fo.perm (show Fo (imm I) _ _ from (by (repeat (first | with_reducible exact Fo.head | with_reducible apply Fo.tail)))))).getI hcj)
  by_cases hkj : k = j
  · subst hkj
    rw [show (decide ((eb k).1 = (eb k).1 ∧ (eb k).2 = (eb k).2) == true) = true by simp]
    refine C.pk rfl ?_
    refine C.go ?_
    refine C.tru ?_
    refine C.rg [0] ?_
    refine C.asg rfl ?_
    refine C.go ?_
    refine C.retR hkd hret ⟨?_, rfl⟩
    simp
  · rw [show (decide ((eb k).1 = (eb j).1 ∧ (eb k).2 = (eb j).2) == true) = false by
      rw [beq_true, decide_eq_false_iff_not]
      rintro ⟨h1, h2⟩
      exact hkj (hE.inj k j hk hj (Prod.ext h1 h2))]
    refine C.pk rfl ?_
    refine C.go ?_
    refine C.fls ?_
    refine C.rg [0, 1, 2, 3, 4, 5, 6] ?_
    refine C.mv rfl ?_
    refine C.taI Tryz.underlying240 (info_of Tryz.type339) hm2 ⟨_, info_of Tryz.type240, rfl⟩ rfl ?_
    refine C.mv rfl ?_
    refine C.ext rfl ?_
    refine C.ext rfl ?_
    refine C.asg rfl ?_
    refine C.asg rfl ?_
    refine C.go ?_
    refine C.rg [0, 1, 2, 3, 4, 5] ?_
    refine C.mv rfl ?_
    refine C.mv rfl ?_
    refine C.no rfl ?_
    refine C.no rfl ?_
    refine C.no rfl ?_
    refine C.pk rfl ?_
    refine C.go ?_
    refine C.fls ?_
    refine C.rg [0] ?_
    refine C.mv rfl ?_
    refine C.go ?_
    refine C.rg [0, 1, 2] ?_
    refine C.taI Tryz.underlying238 (info_of Tryz.type339) (miss1 (by kernel_rfl)).choose_spec ⟨_, info_of Tryz.type238, rfl⟩ rfl ?_
    refine C.ext rfl ?_
    refine C.ext rfl ?_
    refine C.go ?_
    refine C.fls ?_
    refine C.rg [0, 1, 2] ?_
    refine C.taI Tryz.underlying239 (info_of Tryz.type339) (miss1 (by kernel_rfl)).choose_spec ⟨_, info_of Tryz.type239, rfl⟩ rfl ?_
    refine C.ext rfl ?_
    refine C.ext rfl ?_
    refine C.go ?_
    refine C.fls ?_
    refine C.rg [0] ?_
    refine C.asg rfl ?_
    refine C.go ?_
    refine C.rg [0] ?_
    refine C.asg rfl ?_
    refine C.go ?_
    refine C.retR hkd hret ⟨?_, rfl⟩
    simp [hkj]
theorem eIs_spec {I : HL} {eb : Nat → Nat × Nat} (hE : ErrI I eb) {bE j k : Nat} (hj : j < 9) (hk : k < 9) {nm : Value} {at_ : Int} : Spec Tryz.prog main badT 60 #[.iface 128 (ptrV bE), errV (eb j)] [pts bE (.cells #[nm, .int .i64 at_, errV (eb k)] 132 (0, 0)), imm I]
    (fun v As => v = .bool (decide (k = j)) ∧ As = [pts bE (.cells #[nm, .int .i64 at_, errV (eb k)] 132 (0, 0)), imm I]) := by
  refine Spec.of ?_
  intro R C kd d F c cs hkd hret
  simp only [List.cons_append, List.nil_append]
  refine C.go ?_
  refine C.rg [0] ?_
  refine C.asg rfl ?_
  refine C.go ?_
  refine C.rg [0, 1, 2, 3, 4, 5] ?_
  refine C.mv rfl ?_
  refine C.eqZ Tryz.underlying46 rfl ?_
  refine C.mv rfl ?_
  refine C.mv rfl ?_
  refine C.eqZ Tryz.underlying46 rfl ?_
  refine C.pk rfl ?_
  refine C.go ?_
  refine C.fls ?_
  refine C.rg [0, 1, 2, 3] ?_
  refine C.mv rfl ?_
  refine C.x0 (f := 106) (v := rtV 339) typeOf_err rfl ?_
  refine C.xi0 m_cmp x_cmp ?_
  refine C.asg rfl ?_
  refine C.go ?_
  refine C.rg [0, 1, 2, 3, 4] ?_
  refine C.mv rfl ?_
  refine C.mv rfl ?_
  refine C.mv rfl ?_
  refine C.clR (eis_spec hE hj hk) ?_
  rintro v As' ⟨rfl, rfl⟩
  simp only [List.cons_append, List.nil_append]
  refine C.asg rfl ?_
  refine C.go ?_
  exact C.retR hkd hret ⟨rfl, rfl⟩
end Go.Sl
end
section
set_option linter.unusedVariables false
namespace Go.Sl
open Go.Proofs
instance : Ext_ Tryz.prog 102 Tryz.f102 (fun args => Extern.ReflectliteValue.unpack (args.getD 0 (.tuple #[]))) := ⟨Tryz.func102, rfl, rfl, by kernel_rfl, by kernel_rfl⟩
instance : Ext_ Tryz.prog 103 Tryz.f103 ((Extern.find Tryz.f103).getD fun _ => pure undef) := ⟨Tryz.func103, rfl, rfl, by kernel_rfl, by kernel_rfl⟩
instance : Ext_ Tryz.prog 104 Tryz.f104 (Extern.ReflectliteValue.method (Extern.ReflectliteValue.valueError "reflectlite.Value.IsNil" 0) Extern.ReflectliteValue.isNil) := ⟨Tryz.func104, rfl, rfl, by kernel_rfl, by kernel_rfl⟩
instance : Ext_ Tryz.prog 150 Tryz.f150 (Extern.ReflectliteValue.method (Extern.ReflectliteValue.valueError "reflectlite.Value.Elem" 0) Extern.ReflectliteValue.elem) := ⟨Tryz.func150, rfl, rfl, by kernel_rfl, by kernel_rfl⟩
instance : Ext_ Tryz.prog 151 Tryz.f151 Extern.ReflectliteValue.set := ⟨Tryz.func151, rfl, rfl, by kernel_rfl, by kernel_rfl⟩
instance : Ext_ Tryz.prog 265 Tryz.f265 ((Extern.find Tryz.f265).getD fun _ => pure undef) := ⟨Tryz.func265, rfl, rfl, by kernel_rfl, by kernel_rfl⟩
instance : Ext_ Tryz.prog 266 Tryz.f266 ((Extern.find Tryz.f266).getD fun _ => pure undef) := ⟨Tryz.func266, rfl, rfl, by kernel_rfl, by kernel_rfl⟩
instance : Ext_ Tryz.prog 263 Tryz.f263 ((Extern.find Tryz.f263).getD fun _ => pure undef) := ⟨Tryz.func263, rfl, rfl, by kernel_rfl, by kernel_rfl⟩
instance : Ext_ Tryz.prog 248 Tryz.f248 ((Extern.find Tryz.f248).getD fun _ => pure undef) := ⟨Tryz.func248, rfl, rfl, by kernel_rfl, by kernel_rfl⟩
abbrev rvV (t : TypeId) (b : Nat) (f : Int) : Value := .agg #[hdV t, .pointer (some ⟨b, 0, none⟩), .int .u64 f]
theorem mk_130 {b : Nat} : ev0 Tryz.prog (Extern.ReflectliteValue.mk 130 ⟨b, 0, none⟩ 0) = some (rvV 130 b 150) := by kernel_rfl
theorem mk_128 {b : Nat} : ev0 Tryz.prog (Extern.ReflectliteValue.mk 128 ⟨b, 0, none⟩ 0) = some (rvV 128 b 150) := by kernel_rfl
theorem mk_128a {b : Nat} : ev0 Tryz.prog (Extern.ReflectliteValue.mk 128 ⟨b, 0, none⟩ 256) = some (rvV 128 b 406) := by kernel_rfl
theorem x_type {b : Nat} : ev0 Tryz.prog (((Extern.find Tryz.f103).getD fun _ => pure undef) ([rvV 130 b 150] : List Value).toArray) = some (rtV 130) := by kernel_rfl
theorem m_kind (t : TypeId) : ev0 Tryz.prog (method (Tryz.prog.types.size + Made.depth) 231 (.agg #[hdV t]) "Kind") = some (248, hdV t) := by kernel_rfl
theorem x_kind0 : ev0 Tryz.prog (((Extern.find Tryz.f248).getD fun _ => pure undef) (#[hdV 130] ++ ([] : List Value).toArray)) = some (.int .u8 22) := by kernel_rfl
theorem x_kind1 : ev0 Tryz.prog (((Extern.find Tryz.f248).getD fun _ => pure undef) (#[hdV 128] ++ ([] : List Value).toArray)) = some (.int .u8 22) := by kernel_rfl
theorem m_elem : ev0 Tryz.prog (method (Tryz.prog.types.size + Made.depth) 231 (.agg #[hdV 130]) "Elem") = some (265, .agg #[hdV 130]) := by kernel_rfl
theorem x_elem : ev0 Tryz.prog (((Extern.find Tryz.f265).getD fun _ => pure undef) (#[.agg #[hdV 130]] ++ ([] : List Value).toArray)) = some (rtV 128) := by kernel_rfl
theorem m_impl : ev0 Tryz.prog (method (Tryz.prog.types.size + Made.depth) 231 (.agg #[hdV 128]) "Implements") = some (266, .agg #[hdV 128]) := by kernel_rfl
theorem x_impl : ev0 Tryz.prog (((Extern.find Tryz.f266).getD fun _ => pure undef) (#[.agg #[hdV 128]] ++ ([rtV 46] : List Value).toArray)) = some (.bool true) := by kernel_rfl
theorem m_asg : ev0 Tryz.prog (method (Tryz.prog.types.size + Made.depth) 231 (.agg #[hdV 128]) "AssignableTo") = some (263, .agg #[hdV 128]) := by kernel_rfl
theorem x_asg : ev0 Tryz.prog (((Extern.find Tryz.f263).getD fun _ => pure undef) (#[.agg #[hdV 128]] ++ ([rtV 128] : List Value).toArray)) = some (.bool true) := by kernel_rfl
theorem typeOf_ce {v : Value} : ev0 Tryz.prog (((Extern.find Tryz.f106).getD fun _ => pure undef) ([.iface 128 v] : List Value).toArray) = some (rtV 128) := by kernel_rfl
end Go.Sl
end
section
set_option linter.unusedVariables false
namespace Go.Sl
open Go.Proofs Go.Extern.ReflectliteValue
variable {main : Bool} {B : Bad} {H : Array Obj} {d : Nat} {Q : Value → Array Obj → Nat → Prop}
theorem okS_vof {P : Program} {t : TypeId} {v w : Value} (hmk : ev0 P (Extern.ReflectliteValue.mk t ⟨H.size, 0, none⟩ 0) = some w) (q : Q w (H.push (.cells v.cells t (0, 0))) d) : okS P B (unpack (.iface t v)) H d Q := by
  show okS P B (newVar t v >>= fun a => mk t a 0) H d Q
  refine okS_do ?_
  unfold newVar newRow
  refine okS_do ?_
  show okS P B (.new _ _) H d _
  simp only [okS]
  show okS P B (pure _) _ d _
  exact okS_pure (okS_ev0 hmk q)
theorem okS_isnilG {P : Program} {t : TypeId} {b p : Nat} {u : Value} [Ag P t false] (hp' : ev0 P (parts u) = some (some (t, ⟨b, 0, none⟩, 150))) (hg : hp H b = some (.cells #[ptrV p] t (0, 0))) (hs : B.sh t 0 = false) (q : Q (.bool false) H d) : okS P B (Extern.ReflectliteValue.method (valueError "reflectlite.Value.IsNil" 0) isNil #[u]) H d Q := by
  unfold Extern.ReflectliteValue.method
  refine okS_do (okS_ev0 hp' ?_)
  show okS P B (isNil t ⟨b, 0, none⟩ 150 22) H d Q
  unfold isNil
  simp only [List.contains_cons, List.contains_nil, Nat.reduceBEq, Bool.or_false, Bool.false_or, Bool.or_true, Bool.true_or, Bool.not_true, Bool.false_eq_true, if_false]
  refine okS_do (okS_loadVar1 hg rfl hs ?_)
  exact okS_pure q
theorem okS_elemG {P : Program} {t t2 : TypeId} {b p : Nat} {u w : Value} [Ag P t false] (hp' : ev0 P (parts u) = some (some (t, ⟨b, 0, none⟩, 150))) (he : ev0 P (Extern.Rtype.elem? t) = some (some t2)) (hmk : ev0 P (Extern.ReflectliteValue.mk t2 ⟨p, 0, none⟩ 256) = some w) (hg : hp H b = some (.cells #[ptrV p] t (0, 0))) (hs : B.sh t 0 = false) (q : Q w H d) : okS P B (Extern.ReflectliteValue.method (valueError "reflectlite.Value.Elem" 0) Extern.ReflectliteValue.elem #[u]) H d Q := by
  unfold Extern.ReflectliteValue.method
  refine okS_do (okS_ev0 hp' ?_)
  show okS P B (Extern.ReflectliteValue.elem t ⟨b, 0, none⟩ 150 22) H d Q
  unfold Extern.ReflectliteValue.elem
  simp only [Nat.reduceBNe, Bool.and_false, Bool.false_and, Bool.false_eq_true, if_false]
  refine okS_do (okS_loadVar1 hg rfl hs ?_)
  refine okS_do (okS_ev0 he ?_)
  exact okS_ev0 hmk q
theorem okS_setG {P : Program} {t : TypeId} {b p : Nat} {u w x0 v : Value} [Ag P t false] [Cz P t 1] (hu : ev0 P (parts u) = some (some (t, ⟨p, 0, none⟩, 406))) (hw : ev0 P (parts w) = some (some (t, ⟨b, 0, none⟩, 150))) (hd : ev0 P (Extern.Rtype.directlyAssignable t t) = some true) (h1 : hp H b = some (.cells #[v] t (0, 0))) (h2 : hp H p = some (.cells #[x0] t (0, 0)))
    (hv : v.cells = #[v]) (h1v : oneCell v = true) (hs : B.sh t 0 = false) (hr : B.rd p t 0 = false) (q : Q (.tuple #[]) (H.setIfInBounds p (.cells #[v] t (0, 0))) d) : okS P B (Extern.ReflectliteValue.set #[u, w]) H d Q := by
  unfold Extern.ReflectliteValue.set
  refine okS_do (okS_ev0 hu ?_)
  refine okS_do (okS_ev0 hw ?_)
  show okS P B _ H d Q
  simp only [show ((406 / flagAddr % 2 == 0) : Bool) = false from rfl, Bool.false_eq_true, if_false]
  refine okS_do (okS_loadVar1 (v := v) h1 rfl hs ?_)
  refine okS_do (okS_ev0 hd ?_)
  simp only [if_true]
  refine okS_do (okS_storeVar (z := 1) h2 (by rw [hv]; rfl) (by simp) (by rw [hv]; intro x hx; simp at hx; subst hx; exact h1v) (fun j h0 h3 => ?_) ?_)
  · obtain rfl : j = 0 := by omega
    exact ⟨hr, hs⟩
  · rw [hv]
    exact okS_pure q
theorem p_130 {b : Nat} : ev0 Tryz.prog (parts (rvV 130 b 150)) = some (some (130, ⟨b, 0, none⟩, 150)) := by kernel_rfl
theorem p_128 {b : Nat} : ev0 Tryz.prog (parts (rvV 128 b 150)) = some (some (128, ⟨b, 0, none⟩, 150)) := by kernel_rfl
theorem p_128a {b : Nat} : ev0 Tryz.prog (parts (rvV 128 b 406)) = some (some (128, ⟨b, 0, none⟩, 406)) := by kernel_rfl
theorem el_130 : ev0 Tryz.prog (Extern.Rtype.elem? 130) = some (some 128) := by kernel_rfl
theorem da_128 : ev0 Tryz.prog (Extern.Rtype.directlyAssignable 128 128) = some true := by kernel_rfl
section
variable {P : Program} {R : Nat → Goroutine → Array Obj → Prop} {As As' : List HP}
variable {fn : FuncId} {kd : Kd} {n : Nat} {e : Nat → Value} {ds : List Deferred} {k : List Item} {cs : List Frame}
variable {ops : Array Oper} {i : Nat} {rest : List Nat} {dst : Option Nat} {ty : TypeId} {pos : String} {af : Array Edge} {gd : Option (Nat × Bool)}
variable {f : FuncId} {fu : Func} {fo : Operand} {args : Array Operand} {ats : Array TypeId} {t t2 : TypeId} {b p : Nat} {u w v x0 : Value}
theorem Closed.xVof (C : Closed P main B R) [x : Ext_ P f fu (fun args => unpack (args.getD 0 (.tuple #[])))] {w : Nat → Value} {c : Array Value} (hc : v.cells = c) (hmk : ∀ b, ev0 P (Extern.ReflectliteValue.mk t ⟨b, 0, none⟩ 0) = some (w b)) (ho : nthO ops i = some ⟨dst, .call ⟨.value fo, args, ats⟩, ty, pos, af, gd⟩) (h : ∀ b, At R d (pts b (.cells c t (0, 0)) :: As) (gr fn kd n (putO e dst (w b)) ds (.inRegion ops rest :: k) cs))
    (hf : ev n e fo = .func (.func f) #[] #[] := by rfl) (hv : args.toList.map (ev n e) = [.iface t v] := by rfl) (hw : wantB ops n e gd = true := by rfl) : At R d As (gr fn kd n e ds (.inRegion ops (i :: rest) :: k) cs) :=
  C.xt (f := f) (vl := [.iface t v]) (fun H s => okS_vof (hmk H.size) ⟨_, s.push _, hc ▸ h _⟩) ho hw hf hv
theorem Closed.xNil (C : Closed P main B R) [x : Ext_ P f fu (Extern.ReflectliteValue.method (valueError "reflectlite.Value.IsNil" 0) isNil)] [Ag P t false] (hp' : ev0 P (parts u) = some (some (t, ⟨b, 0, none⟩, 150))) (ho : nthO ops i = some ⟨dst, .call ⟨.value fo, args, ats⟩, ty, pos, af, gd⟩) (h : At R d As (gr fn kd n (putO e dst (.bool false)) ds (.inRegion ops rest :: k) cs))
    (hh : Kn As b (.cells #[ptrV p] t (0, 0)) := by apply Has.kn; (repeat (first | with_reducible exact Has.head | with_reducible apply Has.tail)); done) (hs : B.sh t 0 = false := by rfl) (hf : ev n e fo = .func (.func f) #[] #[] := by rfl) (hv : args.toList.map (ev n e) = [u] := by rfl) (hw : wantB ops n e gd = true := by rfl) : At R d As (gr fn kd n e ds (.inRegion ops (i :: rest) :: k) cs) :=
  C.xt (f := f) (vl := [u]) (fun H s => okS_isnilG hp' (hh _ s) hs ⟨_, s, h⟩) ho hw hf hv
theorem Closed.xElm (C : Closed P main B R) [x : Ext_ P f fu (Extern.ReflectliteValue.method (valueError "reflectlite.Value.Elem" 0) Extern.ReflectliteValue.elem)] [Ag P t false] (hp' : ev0 P (parts u) = some (some (t, ⟨b, 0, none⟩, 150))) (he : ev0 P (Extern.Rtype.elem? t) = some (some t2)) (hmk : ev0 P (Extern.ReflectliteValue.mk t2 ⟨p, 0, none⟩ 256) = some w) (ho : nthO ops i = some ⟨dst, .call ⟨.value fo, args, ats⟩, ty, pos, af, gd⟩) (h : At R d As (gr fn kd n (putO e dst w) ds (.inRegion ops rest :: k) cs))
    (hh : Kn As b (.cells #[ptrV p] t (0, 0)) := by apply Has.kn; (repeat (first | with_reducible exact Has.head | with_reducible apply Has.tail)); done) (hs : B.sh t 0 = false := by rfl) (hf : ev n e fo = .func (.func f) #[] #[] := by rfl) (hv : args.toList.map (ev n e) = [u] := by rfl) (hw : wantB ops n e gd = true := by rfl) : At R d As (gr fn kd n e ds (.inRegion ops (i :: rest) :: k) cs) :=
  C.xt (f := f) (vl := [u]) (fun H s => okS_elemG hp' he hmk (hh _ s) hs ⟨_, s, h⟩) ho hw hf hv
theorem Closed.xSet (C : Closed P main B R) [x : Ext_ P f fu Extern.ReflectliteValue.set] [Ag P t false] [Cz P t 1] (hu : ev0 P (parts u) = some (some (t, ⟨p, 0, none⟩, 406))) (hw' : ev0 P (parts w) = some (some (t, ⟨b, 0, none⟩, 150))) (hd : ev0 P (Extern.Rtype.directlyAssignable t t) = some true) (ho : nthO ops i = some ⟨dst, .call ⟨.value fo, args, ats⟩, ty, pos, af, gd⟩) (h : At R d As' (gr fn kd n (putO e dst (.tuple #[])) ds (.inRegion ops rest :: k) cs))
    (hh : Kn As b (.cells #[v] t (0, 0)) := by apply Has.kn; (repeat (first | with_reducible exact Has.head | with_reducible apply Has.tail)); done) (hU : Upd p (.cells #[x0] t (0, 0)) (.cells #[v] t (0, 0)) As As' := by repeat (first | with_reducible exact Upd.head | with_reducible apply Upd.tail)) (hvc : v.cells = #[v] := by rfl) (h1v : oneCell v = true := by rfl)
    (hs : B.sh t 0 = false := by rfl) (hr : B.rd p t 0 = false := by rfl) (hf : ev n e fo = .func (.func f) #[] #[] := by rfl) (hv : args.toList.map (ev n e) = [u, w] := by rfl) (hw : wantB ops n e gd = true := by rfl) : At R d As (gr fn kd n e ds (.inRegion ops (i :: rest) :: k) cs) :=
  C.xt (f := f) (vl := [u, w]) (fun H s => okS_setG hu hw' hd (hh _ s) (hU.has.get s) hvc h1v hs hr ⟨_, hU.set s, h⟩) ho hw hf hv
end
theorem eas_spec {bE b7 bV : Nat} {tg : Value} : Spec Tryz.prog main badT 105 #[.iface 128 (ptrV bE), tg, rvV 130 bV 150, rtV 128] [pts bV (.cells #[ptrV b7] 130 (0, 0)), pts b7 (.cells #[.pointer none] 128 (0, 0))]
    (fun v As => v = .bool true ∧ As = [pts b7 (.cells #[ptrV bE] 128 (0, 0))]) := by
  refine Spec.of ?_
  intro R C kd d F c cs hkd hret
  simp only [List.cons_append, List.nil_append]
  refine C.go ?_
  refine C.rg [0, 1] ?_
  refine C.bx rfl (fun b6 => ?_)
  refine C.asg rfl ?_
  refine C.go ?_
  refine C.lp ?_
  refine C.go ?_
  refine C.rg [0, 1, 2, 3] ?_
  refine C.mv rfl ?_
  refine C.x0 (f := 106) (v := rtV 128) typeOf_ce rfl ?_
  refine C.mv rfl ?_
  refine C.xi0 m_asg x_asg ?_
  refine C.go ?_
  refine C.tru ?_
  refine C.rg [0, 1, 2, 3, 4] ?_
  refine C.ldS rfl ?_
  refine C.xElm (f := 150) p_130 el_130 (mk_128a (b := b7)) rfl ?_
  refine C.mv rfl ?_
  refine C.xVof (f := 102) (t := 128) (c := #[ptrV bE]) rfl (fun b => mk_128 (b := b)) rfl (fun bW => ?_) (v := ptrV bE)
  refine C.xSet (f := 151) (p_128a (b := b7)) (p_128 (b := bW)) da_128 rfl ?_ (v := ptrV bE)
  refine C.go ?_
  refine C.rg [0] ?_
  refine C.asg rfl ?_
  refine C.go ?_
  exact C.retR hkd hret ⟨rfl, rfl⟩
end Go.Sl
end
section
set_option linter.unusedVariables false
namespace Go.Sl
open Go.Proofs Go.Conc
instance : Zv Tryz.prog 73 (.agg #[]) := ⟨_, info_of Tryz.type73, rfl⟩
section
variable {P : Program} {n : Nat} {e : Nat → Value} {dst : Option Nat} {ty t1 t2 : TypeId} {pos : String} {af : Array Edge} {gd : Option (Nat × Bool)} {x y : Operand}
theorem ev0_sel2 {a b : Nat} {z1 z2 : Value} [c1 : Zv P t1 z1] [c2 : Zv P t2 z2] (hx : ev n e x = .chan (some a)) (hy : ev n e y = .chan (some b)) : ev0 P (execOp (ev n e) ⟨dst, .select #[⟨x, none, t1⟩, ⟨y, none, t2⟩] true, ty, pos, af, gd⟩) = some (.comm #[rcase a z1, rcase b z2] true .select) := by
  unfold execOp
  simp only
  refine ev0_do (a := #[rcase a z1, rcase b z2]) ?_ rfl
  have h1 : ev0 P (zeroValue t1) = some z1 := ev0_zero c1.h
  have h2 : ev0 P (zeroValue t2) = some z2 := ev0_zero c2.h
  rw [Array.mapM_eq_mapM_toList]
  simp only [List.mapM_cons, List.mapM_nil, hx, hy, Option.map_none, map_eq_pure_bind, bind_assoc, pure_bind]
  refine ev0_do h1 (ev0_do h2 rfl)
end
structure HG where
  g : Nat
  hb : Nat
  bh : Nat
  bs : Nat
  wk : Nat
  rd : Nat
structure CG where
  b : Nat
  cb : Nat
  dn : Nat
def IsStk (C : CG) (cs : List Frame) : Prop := ∃ e1, cs = [frm 49 .dfr 11 e1 [⟨.fn (.func 50) #[], #[.pointer (some ⟨C.b, 7, none⟩)]⟩] [.inRegion (cO (cR ((Tryz.f49.body).getD .skip))) [5]], base Tryz.prog []]
def LiveRec (h : HG) (C : CG) (r : Goroutine) : Prop := ∃ e cs, IsStk C cs ∧ e 0 = ptrV h.bh ∧ e 1 = .chan (some C.dn) ∧ r = gr 51 .nor 30 e [] (.inRegion (cO (cL (cR (cB (cB (cB ((Tryz.f51.body).getD .skip))))))) [0, 1, 2, 3] :: .code (cR (cR (cB (cB (cB ((Tryz.f51.body).getD .skip)))))) :: .inBlock 1 :: .inLoop (cB (cB ((Tryz.f51.body).getD .skip))) :: [.inBlock 0]) cs
def seatW (h : HG) (C : CG) : SeatD := ⟨#[rcase h.wk .nilFunc, rcase C.dn (.agg #[])], .select, LiveRec h C, [(⟨C.cb, 0, none⟩, ptrV C.b), (⟨h.hb, 0, none⟩, ptrV h.bh), (⟨C.b, 5, none⟩, .chan (some C.dn)), (⟨h.bh, 1, none⟩, .chan (some h.wk))]⟩
theorem live_way {h : HG} {C : CG} {e : Nat → Value} {cs : List Frame} (hcs : IsStk C cs) (h0 : e 0 = ptrV h.bh) (h1 : e 1 = .chan (some C.dn)) :
    Way Tryz.prog false (seatW h C) 200 (gr 51 .nor 30 e [] (.code (cB (cB ((Tryz.f51.body).getD .skip))) :: .inLoop (cB (cB ((Tryz.f51.body).getD .skip))) :: [.inBlock 0]) cs) := by
  have M := Mt.way (P := Tryz.prog) (main := false) (s := seatW h C)
  rw [← puts_eq (e := e) (l := [(0, ptrV h.bh), (1, .chan (some C.dn))]) ⟨h0, h1, trivial⟩]
  refine M.go ?_
  refine M.rg [0, 1, 2, 3] ?_
  refine M.mv rfl ?_
  refine M.nc (a := ⟨h.bh, 0, none⟩) rfl ?_
  refine M.fa rfl ?_
  refine way_ld (ad := ⟨h.bh, 1, none⟩) (v := .chan (some h.wk)) rfl ?_ (by simp [seatW])
  refine M.go ?_
  refine M.rg [0] ?_
  refine M.mv rfl ?_
  refine M.go ?_
  refine M.rg [0, 1, 2, 3] ?_
  exact Way.mono (n := 0) (way_at rfl ⟨_, cs, hcs, rfl, rfl, rfl⟩ (ev0_sel2 rfl rfl) rfl) (by omega)
theorem child_way {h : HG} {C : CG} : Way Tryz.prog false (seatW h C) 600 (child Tryz.prog ⟨.fn (.func 49) #[ptrV C.cb, ptrV h.hb], #[]⟩) := by
  have M := Mt.way (P := Tryz.prog) (main := false) (s := seatW h C)
  refine M.child ?_
  refine M.go ?_
  refine M.rg [0, 1, 2, 3] ?_
  refine way_ld (ad := ⟨C.cb, 0, none⟩) (v := ptrV C.b) rfl ?_ (by simp [seatW])
  refine M.nc (a := ⟨C.b, 0, none⟩) rfl ?_
  refine M.fa rfl ?_
  refine M.dfr rfl ?_
  refine M.go ?_
  refine way_drawn1 [(5, 0), (6, 1), (7, 2), (8, 3), (9, 4), (10, 5)] [0, 1, 2, 3, 4] 5 [⟨0, 5, ptrV h.bh, false⟩, ⟨1, 6, ptrV C.b, false⟩, ⟨2, 7, ptrV C.b, false⟩, ⟨3, 8, .pointer (some ⟨C.b, 5, none⟩), false⟩, ⟨4, 9, .chan (some C.dn), false⟩] ⟨?_, ?_, ?_, ?_, ?_⟩ ?_
  · intro i hi
    simp only [List.mem_cons, List.not_mem_nil, or_false] at hi
    rcases hi with rfl | rfl | rfl | rfl | rfl <;> simp
  · simp
  · simp
  · intro x hx
    simp only [List.mem_cons, List.not_mem_nil, or_false] at hx
    rcases hx with rfl | rfl | rfl | rfl | rfl <;> rfl
  · intro x hx
    simp only [List.mem_cons, List.not_mem_nil, or_false] at hx
    rcases hx with rfl | rfl | rfl | rfl | rfl
    · exact ⟨[], by simp, fun m e rest q => wayLd (ad := ⟨h.hb, 0, none⟩) (by simp [seatW]) rfl q⟩
    · exact ⟨[], by simp, fun m e rest q => wayLd (ad := ⟨C.cb, 0, none⟩) (by simp [seatW]) rfl q⟩
    · exact ⟨[⟨1, 6, ptrV C.b, false⟩], by simp, fun m e rest q => wayNc (a := ⟨C.b, 0, none⟩) rfl q⟩
    · exact ⟨[⟨2, 7, ptrV C.b, false⟩], by simp, fun m e rest q => wayFa (b := C.b) (off := 0) (o := 5) rfl q⟩
    · exact ⟨[⟨3, 8, .pointer (some ⟨C.b, 5, none⟩), false⟩], by simp, fun m e rest q => wayLd (ad := ⟨C.b, 5, none⟩) (by simp [seatW]) rfl q⟩
  · refine M.cal (f := 51) rfl ?_
    refine M.go ?_
    refine M.lp ?_
    exact Way.mono (live_way ⟨_, rfl⟩ rfl rfl) (by omega)
end Go.Sl
end
