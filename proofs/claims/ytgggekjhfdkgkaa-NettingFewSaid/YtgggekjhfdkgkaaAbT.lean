/- Facts on the types of the program, as the abstract runs ask them. -/
import Derived.Test.YtgggekjhfdkgkaaAbJ
namespace Go.Proofs.Ytgggekjhfdkgkaa.Ab
open Go Go.RowKit Go.Shelf
theorem sz3 : sizeT Try.prog 3 = some 1 := rfl
theorem by3 : bytesT Try.prog 3 = some 8 := rfl
theorem zt3 : zeroT Try.prog 3 = some [AV.s (Value.int IntKind.i64 0)] := rfl
theorem sz4 : sizeT Try.prog 4 = some 1 := rfl
theorem by4 : bytesT Try.prog 4 = some 1 := rfl
theorem zt4 : zeroT Try.prog 4 = some [AV.s (Value.bool false)] := rfl
theorem sz22 : sizeT Try.prog 22 = some 1 := rfl
theorem by22 : bytesT Try.prog 22 = some 24 := rfl
theorem zt22 : zeroT Try.prog 22 = some [AV.s (Value.slice none 0 0)] := rfl
theorem sz24 : sizeT Try.prog 24 = some 1 := rfl
theorem by24 : bytesT Try.prog 24 = some 24 := rfl
theorem zt24 : zeroT Try.prog 24 = some [AV.s (Value.slice none 0 0)] := rfl
theorem sz25 : sizeT Try.prog 25 = some 1 := rfl
theorem by25 : bytesT Try.prog 25 = some 8 := rfl
theorem zt25 : zeroT Try.prog 25 = some [AV.s (Value.int IntKind.i64 0)] := rfl
theorem sz34 : sizeT Try.prog 34 = some 2 := rfl
theorem by34 : bytesT Try.prog 34 = some 16 := rfl
theorem zt34 : zeroT Try.prog 34 = some [AV.s (Value.int IntKind.i64 0), AV.s (Value.int IntKind.i64 0)] := rfl
theorem sz38 : sizeT Try.prog 38 = some 4 := rfl
theorem by38 : bytesT Try.prog 38 = some 32 := rfl
theorem zt38 : zeroT Try.prog 38 = some [AV.s (Value.int IntKind.i64 0), AV.s (Value.int IntKind.i64 0), AV.s (Value.int IntKind.i64 0), AV.s (Value.int IntKind.i64 0)] := rfl
theorem sz45 : sizeT Try.prog 45 = some 1 := rfl
theorem by45 : bytesT Try.prog 45 = some 8 := rfl
theorem zt45 : zeroT Try.prog 45 = some [AV.s (Value.nilFunc)] := rfl
theorem sz47 : sizeT Try.prog 47 = some 24 := rfl
theorem by47 : bytesT Try.prog 47 = some 192 := rfl
theorem zt47 : zeroT Try.prog 47 = some [AV.s (Value.int IntKind.i64 0), AV.s (Value.int IntKind.i64 0), AV.s (Value.int IntKind.i64 0), AV.s (Value.int IntKind.i64 0), AV.s (Value.int IntKind.i64 0), AV.s (Value.int IntKind.i64 0), AV.s (Value.int IntKind.i64 0), AV.s (Value.int IntKind.i64 0), AV.s (Value.int IntKind.i64 0), AV.s (Value.int IntKind.i64 0), AV.s (Value.int IntKind.i64 0), AV.s (Value.int IntKind.i64 0), AV.s (Value.int IntKind.i64 0), AV.s (Value.int IntKind.i64 0), AV.s (Value.int IntKind.i64 0), AV.s (Value.int IntKind.i64 0), AV.s (Value.int IntKind.i64 0), AV.s (Value.int IntKind.i64 0), AV.s (Value.int IntKind.i64 0), AV.s (Value.int IntKind.i64 0), AV.s (Value.int IntKind.i64 0), AV.s (Value.int IntKind.i64 0), AV.s (Value.int IntKind.i64 0), AV.s (Value.int IntKind.i64 0)] := rfl
theorem sz49 : sizeT Try.prog 49 = some 288 := rfl
theorem by49 : bytesT Try.prog 49 = some 2304 := rfl
theorem sz52 : sizeT Try.prog 52 = some 1 := rfl
theorem by52 : bytesT Try.prog 52 = some 8 := rfl
theorem zt52 : zeroT Try.prog 52 = some [AV.s (Value.nilFunc)] := rfl
theorem sz55 : sizeT Try.prog 55 = some 1 := rfl
theorem by55 : bytesT Try.prog 55 = some 8 := rfl
theorem zt55 : zeroT Try.prog 55 = some [AV.s (Value.nilFunc)] := rfl
theorem sz58 : sizeT Try.prog 58 = some 1 := rfl
theorem by58 : bytesT Try.prog 58 = some 8 := rfl
theorem zt58 : zeroT Try.prog 58 = some [AV.s (Value.nilFunc)] := rfl
theorem sz61 : sizeT Try.prog 61 = some 1 := rfl
theorem by61 : bytesT Try.prog 61 = some 8 := rfl
theorem zt61 : zeroT Try.prog 61 = some [AV.s (Value.nilFunc)] := rfl
theorem sz65 : sizeT Try.prog 65 = some 1 := rfl
theorem by65 : bytesT Try.prog 65 = some 8 := rfl
theorem zt65 : zeroT Try.prog 65 = some [AV.s (Value.int IntKind.u64 0)] := rfl
theorem sz72 : sizeT Try.prog 72 = some 1 := rfl
theorem by72 : bytesT Try.prog 72 = some 24 := rfl
theorem zt72 : zeroT Try.prog 72 = some [AV.s (Value.slice none 0 0)] := rfl
end Go.Proofs.Ytgggekjhfdkgkaa.Ab
