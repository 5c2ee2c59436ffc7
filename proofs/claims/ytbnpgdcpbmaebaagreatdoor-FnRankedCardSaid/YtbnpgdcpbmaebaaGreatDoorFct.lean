/-
  Closed facts about the program's tables.
  Conditions: none.
-/
import Derived.Test.YtbnpgdcpbmaebaaGreatDoorProg
import Derived.Test.YtbnpgdcpbmaebaaGreatDoorTypes
set_option maxRecDepth 20000
namespace Go.Sy
open Go Go.RowKit Go.Proofs
abbrev Cy(f:Nat)(vs:List Value)(w:World)(R:Ending->World->Prop):Prop:=Calls Tryz.prog f vs.toArray w R
theorem mixed:Tryz.prog.follows .mixedOrders=true:=by kernel_rfl
theorem F5:Tryz.prog.underlying 9=some .string:=by kernel_rfl
theorem LO:Tryz.prog.underlying 3=some (.int .i64):=by kernel_rfl
theorem VL:Tryz.prog.underlying 5=some (.int .u8):=by kernel_rfl
theorem B4A:AA Tryz.prog 67=true:=by kernel_rfl
theorem A0R:AA Tryz.prog 192=true:=by kernel_rfl
theorem C4L:AL Tryz.prog 42 1=some 1:=by kernel_rfl
theorem C4Q:D9 Tryz.prog 34=true:=by kernel_rfl
theorem C4D:AT Tryz.prog 34=some (9,1,16):=by kernel_rfl
theorem BK:D9 Tryz.prog 9=true:=by kernel_rfl
theorem B5C:AL Tryz.prog 42 0=some 0:=by kernel_rfl
theorem A4y:AA Tryz.prog 136=true:=by kernel_rfl
theorem pV:AA Tryz.prog 204=true:=by kernel_rfl
theorem C4R:AL Tryz.prog 36 1=some 1:=by kernel_rfl
theorem bD:AA Tryz.prog 203=true:=by kernel_rfl
theorem B5Y:AL Tryz.prog 36 0=some 0:=by kernel_rfl
theorem B4h:AL Tryz.prog 38 0=some 0:=by kernel_rfl
theorem CJ:D9 Tryz.prog 3=true:=by kernel_rfl
theorem C4l:AL Tryz.prog 38 1=some 1:=by kernel_rfl
theorem B4a:DV Tryz.prog 36=some 2:=by kernel_rfl
theorem iW:AA Tryz.prog 202=true:=by kernel_rfl
theorem B4z:AL Tryz.prog 38 2=some 3:=by kernel_rfl
theorem B4x:AL Tryz.prog 38 3=some 4:=by kernel_rfl
theorem C4n:DV Tryz.prog 38=some 5:=by kernel_rfl
theorem jD:AA Tryz.prog 153=true:=by kernel_rfl
theorem B7z:AL Tryz.prog 116 0=some 0:=by kernel_rfl
theorem B5B:AL Tryz.prog 116 1=some 1:=by kernel_rfl
theorem QZ:BV Tryz.prog 9=some (.string ⟨#[]⟩):=by kernel_rfl
theorem pM:AA Tryz.prog 201=true:=by kernel_rfl
theorem A3k:AA Tryz.prog 159=true:=by kernel_rfl
theorem A1T:AL Tryz.prog 27 2=some 2:=by kernel_rfl
theorem A3Z:D9 Tryz.prog 24=true:=by kernel_rfl
theorem lW:AT Tryz.prog 24=some (38,5,80):=by kernel_rfl
theorem qH:AA Tryz.prog 154=true:=by kernel_rfl
theorem A0J:AA Tryz.prog 155=true:=by kernel_rfl
theorem pK:AL Tryz.prog 27 3=some 3:=by kernel_rfl
theorem A3a:D9 Tryz.prog 25=true:=by kernel_rfl
theorem lZ:AT Tryz.prog 25=some (116,3,48):=by kernel_rfl
theorem C1s:AT Tryz.prog 47=some (27,4,72):=by kernel_rfl
theorem pH:AL Tryz.prog 27 0=some 0:=by kernel_rfl
theorem pJ:AL Tryz.prog 27 1=some 1:=by kernel_rfl
theorem qM:DV Tryz.prog 27=some 4:=by kernel_rfl
theorem bB:AA Tryz.prog 152=true:=by kernel_rfl
theorem B5Z:BV Tryz.prog 38=some (.agg #[(.int .i64 0),(.string ⟨#[]⟩),(.slice none 0 0),(.string ⟨#[]⟩),(.string ⟨#[]⟩)]):=by kernel_rfl
theorem B5L:CS Tryz.prog 38=some 5:=by kernel_rfl
theorem A3T:AA Tryz.prog 156=true:=by kernel_rfl
theorem B3R:AA Tryz.prog 157=true:=by kernel_rfl
theorem B5s:DV Tryz.prog 116=some 3:=by kernel_rfl
theorem pN:AA Tryz.prog 158=true:=by kernel_rfl
theorem pW:AA Tryz.prog 160=true:=by kernel_rfl
theorem wD:AA Tryz.prog 87=true:=by kernel_rfl
theorem A1X:AA Tryz.prog 88=true:=by kernel_rfl
theorem C0c:AA Tryz.prog 229=true:=by kernel_rfl
theorem lU:AT Tryz.prog 22=some (5,1,1):=by kernel_rfl
theorem y_5:BV Tryz.prog 5=some (.int .u8 0):=by kernel_rfl
theorem B8g:Tryz.prog.underlying 22=some (.slice 5):=by kernel_rfl
theorem A3M:AA Tryz.prog 123=true:=by kernel_rfl
theorem A3K:AA Tryz.prog 187=true:=by kernel_rfl
theorem zP:AA Tryz.prog 188=true:=by kernel_rfl
theorem B3W:AA Tryz.prog 121=true:=by kernel_rfl
theorem B3w:AA Tryz.prog 94=true:=by kernel_rfl
theorem zL:AA Tryz.prog 181=true:=by kernel_rfl
theorem A3y:AA Tryz.prog 122=true:=by kernel_rfl
theorem B3a:AA Tryz.prog 49=true:=by kernel_rfl
theorem A3n:AA Tryz.prog 182=true:=by kernel_rfl
theorem B3b:AA Tryz.prog 50=true:=by kernel_rfl
theorem A0b:AA Tryz.prog 244=true:=by kernel_rfl
theorem B6Y:BV Tryz.prog 36=some (.agg #[(.string ⟨#[]⟩),(.slice none 0 0)]):=by kernel_rfl
theorem C0d:AA Tryz.prog 297=true:=by kernel_rfl
theorem B8A:L3 Tryz.prog 36=some ([(0,1),(1,1)],[(.string ⟨#[]⟩),(.slice none 0 0)]):=by kernel_rfl
theorem B5e:CS Tryz.prog 36=some 2:=by kernel_rfl
theorem A4B:AA Tryz.prog 283=true:=by kernel_rfl
theorem PC:CS Tryz.prog 3=some 1:=by kernel_rfl
theorem B7X:AA Tryz.prog 284=true:=by kernel_rfl
theorem B5i:BV Tryz.prog 116=some (.agg #[(.int .i64 0),(.string ⟨#[]⟩),(.slice none 0 0)]):=by kernel_rfl
theorem B6A:CS Tryz.prog 116=some 3:=by kernel_rfl
theorem B6N:L3 Tryz.prog 116=some ([(0,1),(1,2)],[(iv 0),(.string ⟨#[]⟩),(.slice none 0 0)]):=by kernel_rfl
theorem B6B:BV Tryz.prog 27=some (.agg #[(.string ⟨#[]⟩),(.int .i64 0),(.slice none 0 0),(.slice none 0 0)]):=by kernel_rfl
theorem C0e:AA Tryz.prog 264=true:=by kernel_rfl
theorem B4v:CS Tryz.prog 27=some 4:=by kernel_rfl
theorem B8h:CS Tryz.prog 24=some 1:=by kernel_rfl
theorem C0f:AA Tryz.prog 265=true:=by kernel_rfl
theorem B8O:CS Tryz.prog 25=some 1:=by kernel_rfl
theorem A4i:AA Tryz.prog 245=true:=by kernel_rfl
theorem C4N:AT Tryz.prog 28=some (42,2,40):=by kernel_rfl
theorem B4Z:DV Tryz.prog 42=some 2:=by kernel_rfl
theorem pC:AA Tryz.prog 135=true:=by kernel_rfl
theorem A7N:AA Tryz.prog 13=true:=by kernel_rfl
theorem B4n:BV Tryz.prog 42=some (.agg #[(.string ⟨#[]⟩),(.slice none 0 0)]):=by kernel_rfl
theorem M1:AA Tryz.prog 151=true:=by kernel_rfl
theorem B8i:L3 Tryz.prog 42=some ([(0,1),(1,1)],[(.string ⟨#[]⟩),(.slice none 0 0)]):=by kernel_rfl
theorem B5j:CS Tryz.prog 42=some 2:=by kernel_rfl
theorem qL:AA Tryz.prog 194=true:=by kernel_rfl
theorem C1h:AT Tryz.prog 51=some (120,3,48):=by kernel_rfl
theorem C1v:AL Tryz.prog 120 0=some 0:=by kernel_rfl
theorem pX:AA Tryz.prog 146=true:=by kernel_rfl
theorem C1n:AL Tryz.prog 120 1=some 2:=by kernel_rfl
theorem A7K:AA Tryz.prog 83=true:=by kernel_rfl
theorem A4M:AA Tryz.prog 89=true:=by kernel_rfl
theorem B6a:AL Tryz.prog 142 2=some 2:=by kernel_rfl
theorem B6b:AL Tryz.prog 142 1=some 1:=by kernel_rfl
theorem B8B:AL Tryz.prog 142 0=some 0:=by kernel_rfl
theorem A3X:D9 Tryz.prog 22=true:=by kernel_rfl
theorem o_5:D9 Tryz.prog 5=true:=by kernel_rfl
theorem A3N:AA Tryz.prog 124=true:=by kernel_rfl
theorem A6r:AA Tryz.prog 53=true:=by kernel_rfl
theorem B8j:L3 Tryz.prog 142=some ([(0,1),(1,1),(2,1)],[(.slice none 0 0),(iv 0),(iv 0)]):=by kernel_rfl
theorem AU:AT Tryz.prog 72=some (3,1,8):=by kernel_rfl
theorem A0F:AA Tryz.prog 176=true:=by kernel_rfl
theorem vH:BV Tryz.prog 3=some (.int .i64 0):=by kernel_rfl
theorem A6s:AA Tryz.prog 54=true:=by kernel_rfl
theorem zM:AA Tryz.prog 125=true:=by kernel_rfl
theorem B3c:AA Tryz.prog 126=true:=by kernel_rfl
theorem A3b:CS Tryz.prog 34=some 1:=by kernel_rfl
theorem B3s:AA Tryz.prog 55=true:=by kernel_rfl
theorem A3r:AA Tryz.prog 177=true:=by kernel_rfl
theorem A7F:AA Tryz.prog 76=true:=by kernel_rfl
theorem bF:AA Tryz.prog 242=true:=by kernel_rfl
theorem A0B:AA Tryz.prog 218=true:=by kernel_rfl
theorem B6d:L3 Tryz.prog 38=some ([(0,1),(1,2),(3,1),(4,1)],[(iv 0),(.string ⟨#[]⟩),(.slice none 0 0),(.string ⟨#[]⟩),(.string ⟨#[]⟩)]):=by kernel_rfl
theorem A4h:AA Tryz.prog 243=true:=by kernel_rfl
theorem pP:AA Tryz.prog 220=true:=by kernel_rfl
theorem C0g:L3 Tryz.prog 27=some ([(0,1),(1,1),(2,1),(3,1)],[(.string ⟨#[]⟩),(iv 0),(.slice none 0 0),(.slice none 0 0)]):=by kernel_rfl
theorem A3f:AA Tryz.prog 219=true:=by kernel_rfl
theorem VI:CS Tryz.prog 9=some 1:=by kernel_rfl
theorem TS:AA Tryz.prog 172=true:=by kernel_rfl
theorem A4j:AA Tryz.prog 171=true:=by kernel_rfl
theorem B1x:AA Tryz.prog 100=true:=by kernel_rfl
theorem A5A:AA Tryz.prog 139=true:=by kernel_rfl
theorem C1x:Tryz.prog.underlying 214=some (.int .u64):=by kernel_rfl
theorem A3h:AA Tryz.prog 205=true:=by kernel_rfl
theorem A0a:AA Tryz.prog 233=true:=by kernel_rfl
theorem A3i:AA Tryz.prog 206=true:=by kernel_rfl
theorem C1p:AT Tryz.prog 188=some (3,1,8):=by kernel_rfl
theorem C3S:AL Tryz.prog 224 0=some 0:=by kernel_rfl
theorem bH:D9 Tryz.prog 186=true:=by kernel_rfl
theorem C3l:AA Tryz.prog 322=true:=by kernel_rfl
theorem C3e:L3 Tryz.prog 224=some ([(0,1)],[.nilIface]):=by kernel_rfl
theorem C3f:Tryz.prog.underlying 222=some (.pointer 224):=by kernel_rfl
theorem A6O:AA Tryz.prog 64=true:=by kernel_rfl
theorem A4J:AA Tryz.prog 166=true:=by kernel_rfl
theorem A0Q:AA Tryz.prog 165=true:=by kernel_rfl
theorem B2w:AA Tryz.prog 86=true:=by kernel_rfl
theorem C4h:AT Tryz.prog 39=some (155,2,32):=by kernel_rfl
theorem B4s:BV Tryz.prog 155=some (.agg #[(.string ⟨#[]⟩),(.string ⟨#[]⟩)]):=by kernel_rfl
theorem B9c:BV Tryz.prog 41=some (.agg #[(.string ⟨#[]⟩),(.slice none 0 0),(.slice none 0 0)]):=by kernel_rfl
theorem C0J:AL Tryz.prog 41 0=some 0:=by kernel_rfl
theorem B7j:AL Tryz.prog 41 1=some 1:=by kernel_rfl
theorem B7Y:D9 Tryz.prog 28=true:=by kernel_rfl
theorem B8n:AL Tryz.prog 41 2=some 2:=by kernel_rfl
theorem B7K:D9 Tryz.prog 39=true:=by kernel_rfl
theorem A3G:AA Tryz.prog 183=true:=by kernel_rfl
theorem zN:AA Tryz.prog 185=true:=by kernel_rfl
theorem B9x:L3 Tryz.prog 41=some ([(0,1),(1,1),(2,1)],[(.string ⟨#[]⟩),(.slice none 0 0),(.slice none 0 0)]):=by kernel_rfl
theorem C3g:CS Tryz.prog 41=some 3:=by kernel_rfl
theorem C2y:DV Tryz.prog 41=some 3:=by kernel_rfl
theorem A4q:AA Tryz.prog 195=true:=by kernel_rfl
theorem A3v:AA Tryz.prog 196=true:=by kernel_rfl
theorem L6:AA Tryz.prog 72=true:=by kernel_rfl
theorem zW:AA Tryz.prog 141=true:=by kernel_rfl
theorem I6:BV Tryz.prog 74=some (.agg #[(.string ⟨#[]⟩),(.slice none 0 0),(.slice none 0 0),(.int .i64 0),(.slice none 0 0),(.int .i64 0),(.int .i64 0)]):=by kernel_rfl
theorem A6u:AA Tryz.prog 77=true:=by kernel_rfl
theorem C3r:AA Tryz.prog 28=true:=by kernel_rfl
theorem TP:CS Tryz.prog 74=some 7:=by kernel_rfl
theorem C3:DV Tryz.prog 74=some 7:=by kernel_rfl
theorem A7L:AA Tryz.prog 29=true:=by kernel_rfl
theorem A0N:AA Tryz.prog 147=true:=by kernel_rfl
theorem A4b:AA Tryz.prog 148=true:=by kernel_rfl
theorem A4c:AA Tryz.prog 149=true:=by kernel_rfl
theorem A0K:L3 Tryz.prog 74=some ([(0,3),(3,1),(4,1),(5,1),(6,1)],[(.string ⟨#[]⟩),(.slice none 0 0),(.slice none 0 0),(iv 0),(.slice none 0 0),(iv 0),(iv 0)]):=by kernel_rfl
theorem B5O:AL Tryz.prog 155 0=some 0:=by kernel_rfl
theorem B6c:AL Tryz.prog 155 1=some 1:=by kernel_rfl
theorem B6J:DV Tryz.prog 155=some 2:=by kernel_rfl
theorem TU:AA Tryz.prog 248=true:=by kernel_rfl
theorem A0E:AA Tryz.prog 275=true:=by kernel_rfl
theorem C0h:AA Tryz.prog 277=true:=by kernel_rfl
theorem iU:AA Tryz.prog 251=true:=by kernel_rfl
theorem A3d:AA Tryz.prog 276=true:=by kernel_rfl
theorem qD:AA Tryz.prog 226=true:=by kernel_rfl
theorem qB:AA Tryz.prog 249=true:=by kernel_rfl
theorem B3Q:AA Tryz.prog 250=true:=by kernel_rfl
theorem B6O:BV Tryz.prog 92=some (.agg #[(.slice none 0 0),(.slice none 0 0)]):=by kernel_rfl
theorem B6e:AL Tryz.prog 92 0=some 0:=by kernel_rfl
theorem B6C:AL Tryz.prog 92 1=some 1:=by kernel_rfl
theorem B8l:L3 Tryz.prog 92=some ([(0,1),(1,1)],[(.slice none 0 0),(.slice none 0 0)]):=by kernel_rfl
theorem C0I:CS Tryz.prog 92=some 2:=by kernel_rfl
theorem B8m:DV Tryz.prog 92=some 2:=by kernel_rfl
theorem B5P:AT Tryz.prog 89=some (92,2,48):=by kernel_rfl
theorem A4s:AA Tryz.prog 224=true:=by kernel_rfl
theorem A0O:AA Tryz.prog 225=true:=by kernel_rfl
theorem A3J:AA Tryz.prog 184=true:=by kernel_rfl
theorem jC:AA Tryz.prog 114=true:=by kernel_rfl
theorem JL:AT Tryz.prog 31=some (41,3,64):=by kernel_rfl
theorem B2x:AA Tryz.prog 42=true:=by kernel_rfl
theorem wG:AA Tryz.prog 10=true:=by kernel_rfl
theorem A4x:AA Tryz.prog 112=true:=by kernel_rfl
theorem BU:AL Tryz.prog 74 1=some 3:=by kernel_rfl
theorem C2H:AL Tryz.prog 74 2=some 4:=by kernel_rfl
theorem B5:D9 Tryz.prog 72=true:=by kernel_rfl
theorem A6v:AA Tryz.prog 95=true:=by kernel_rfl
theorem C2F:AL Tryz.prog 74 3=some 5:=by kernel_rfl
theorem C2D:AL Tryz.prog 74 4=some 6:=by kernel_rfl
theorem EH:AL Tryz.prog 74 0=some 0:=by kernel_rfl
theorem B3Y:AA Tryz.prog 96=true:=by kernel_rfl
theorem H7:D9 Tryz.prog 66=true:=by kernel_rfl
theorem BS:AT Tryz.prog 66=some (74,7,112):=by kernel_rfl
theorem A6Z:AA Tryz.prog 35=true:=by kernel_rfl
theorem B3U:AA Tryz.prog 143=true:=by kernel_rfl
theorem A3D:CS Tryz.prog 72=some 1:=by kernel_rfl
theorem A4t:AA Tryz.prog 164=true:=by kernel_rfl
theorem C2N:AL Tryz.prog 198 1=some 1:=by kernel_rfl
theorem C2j:D9 Tryz.prog 194=true:=by kernel_rfl
theorem C1f:DV Tryz.prog 198=some 2:=by kernel_rfl
theorem C3A:AA Tryz.prog 263=true:=by kernel_rfl
theorem C2K:AL Tryz.prog 198 0=some 0:=by kernel_rfl
theorem C2a:D9 Tryz.prog 140=true:=by kernel_rfl
theorem jA:AA Tryz.prog 241=true:=by kernel_rfl
theorem A0C:AA Tryz.prog 217=true:=by kernel_rfl
theorem pT:AA Tryz.prog 216=true:=by kernel_rfl
theorem C3m:BV Tryz.prog 192=some (.agg #[(.pointer none),(.pointer none),(.int .u64 0)]):=by kernel_rfl
theorem C3n:CS Tryz.prog 192=some 3:=by kernel_rfl
theorem C3o:DV Tryz.prog 192=some 3:=by kernel_rfl
theorem A4p:AA Tryz.prog 169=true:=by kernel_rfl
theorem C3s:BV Tryz.prog 66=some (.slice none 0 0):=by kernel_rfl
theorem B3Z:AA Tryz.prog 97=true:=by kernel_rfl
theorem A3U:CS Tryz.prog 66=some 1:=by kernel_rfl
theorem A6R:AA Tryz.prog 98=true:=by kernel_rfl
theorem C2f:L3 Tryz.prog 120=some ([(0,2),(2,1)],[(.string ⟨#[]⟩),(.slice none 0 0),(iv 0)]):=by kernel_rfl
theorem C1o:BV Tryz.prog 120=some (.agg #[(.string ⟨#[]⟩),(.slice none 0 0),(.int .i64 0)]):=by kernel_rfl
theorem A6l:AA Tryz.prog 52=true:=by kernel_rfl
theorem A0X:AA Tryz.prog 103=true:=by kernel_rfl
theorem A3x:AA Tryz.prog 140=true:=by kernel_rfl
theorem A7J:AA Tryz.prog 82=true:=by kernel_rfl
theorem pZ:AA Tryz.prog 75=true:=by kernel_rfl
theorem A6Q:AA Tryz.prog 84=true:=by kernel_rfl
theorem M0:AA Tryz.prog 163=true:=by kernel_rfl
theorem A7E:AA Tryz.prog 37=true:=by kernel_rfl
theorem A4g:AA Tryz.prog 92=true:=by kernel_rfl
theorem A6y:AA Tryz.prog 93=true:=by kernel_rfl
theorem b_7:AA Tryz.prog 7=true:=by kernel_rfl
theorem A5C:AA Tryz.prog 33=true:=by kernel_rfl
theorem A6Y:AA Tryz.prog 34=true:=by kernel_rfl
theorem B2y:AA Tryz.prog 36=true:=by kernel_rfl
end Go.Sy
