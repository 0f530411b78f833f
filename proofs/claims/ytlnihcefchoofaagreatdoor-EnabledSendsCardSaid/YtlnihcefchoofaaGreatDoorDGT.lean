import Derived.Test.YtlnihcefchoofaaGreatDoorDAbsLaw
import Derived.Shelf.Small.Utf8
import Derived.Shelf.Small.Strs
import Derived.Shelf.LaysM
import Derived.Ground.Names2Prog
import Derived.Test.YtlnihcefchoofaaGreatDoorProg
set_option linter.all false
namespace Tn
open Go Go.Abs Go.RowKit
def spc(n:Nat):Int:=match Nat.ble 9 n&&Nat.ble n 13||Nat.beq n 32 with|true=>1|false=>0
instance gtab:GTab:=⟨λg off=>match g with|0=>(match Nat.blt off 256 with|true=>some (.int .u8 (spc off))|false=>none)|_=>none⟩
instance glob:Glob:=⟨1,λw=>∀off,off<256->w.cell? ⟨0,off,none⟩=some (.int .u8 (spc off)),λw w' h hb off ho=>(hb.cell (p:=⟨0,off,none⟩) Nat.zero_lt_one).trans (h off ho),λw h g off x hx=>by
 cases g with|zero => have hx:(match Nat.blt off 256 with|true=>some (PV.int .u8 (spc off))|false=>none)=some x:=hx;split at hx;rename_i hlt;obtain rfl:=J0a hx;exact⟨_,h off (by simpa using hlt),λw' O=>.int _ _⟩;cases hx|succ g=>cases hx⟩
end Tn
set_option maxRecDepth 100000
namespace Go.Proofs
open Go.Shelf
def Tryz.lays137_ren:Go.Shelf.Ren:=⟨λ|137=>270|217=>289|266=>317|n=>n,λ|9=>9|5=>5|3=>3|n=>n,λ|n=>n⟩
theorem Tryz.lays137:Go.Proofs.Lays.n137 Tryz.prog Tryz.lays137_ren:={
 mixed:=by kernel_rfl
 f137:=Tryz.func270.trans (congrArg some (by kernel_rfl))
 f217:=Tryz.func289.trans (congrArg some (by kernel_rfl))
 f266:=Tryz.func317.trans (congrArg some (by kernel_rfl))
 t3:=Tryz.underlying3
 a3:=Tryz.isAgg3
 z3:=Tryz.sizeOf3
 v3:=Tryz.zeroValue3
 t5:=Tryz.underlying5
 a5:=Tryz.isAgg5
 z5:=Tryz.sizeOf5
 v5:=Tryz.zeroValue5
 t9:=Tryz.underlying9
 a9:=Tryz.isAgg9
 z9:=Tryz.sizeOf9
 v9:=Tryz.zeroValue9 }
open Go.RowKit in
theorem Tryz.strings_IndexByte(s:ByteArray)(c:Int)(w:World) :
    Calls Tryz.prog 270 #[.string s,.int .u8 c] w λe w' => e = .returned (.int .i64 (Lib.indexByte s.data.toList c.toNat.toUInt8))/\w' = w:=Any.strings_IndexByte Tryz.lays137 s c w
end Go.Proofs
