/-
  Closed facts about the program's tables.
  Conditions: none.
-/
import Derived.Test.YtfmjgnjaoihefaaGreatDoorProg
import Derived.Test.YtfmjgnjaoihefaaGreatDoorTypes
set_option maxRecDepth 20000
namespace Go.Sy
open Go Go.RowKit Go.Proofs
abbrev Cy(f:Nat)(vs:List Value)(w:World)(R:Ending->World->Prop):Prop:=Calls Tryz.prog f vs.toArray w R
theorem mixed:Tryz.prog.follows .mixedOrders=true:=by kernel_rfl
theorem BS:AT Tryz.prog 66=some (3,1,8):=by kernel_rfl
theorem vH:BV Tryz.prog 3=some (.int .i64 0):=by kernel_rfl
theorem CJ:D9 Tryz.prog 3=true:=by kernel_rfl
theorem PC:CS Tryz.prog 3=some 1:=by kernel_rfl
theorem F5:Tryz.prog.underlying 9=some .string:=by kernel_rfl
theorem LO:Tryz.prog.underlying 3=some (.int .i64):=by kernel_rfl
theorem VL:Tryz.prog.underlying 5=some (.int .u8):=by kernel_rfl
theorem SP:AA Tryz.prog 90=true:=by kernel_rfl
theorem P4:AA Tryz.prog 174=true:=by kernel_rfl
theorem P5:AA Tryz.prog 209=true:=by kernel_rfl
theorem EH:AL Tryz.prog 74 0=some 0:=by kernel_rfl
theorem BK:D9 Tryz.prog 9=true:=by kernel_rfl
theorem M0:AA Tryz.prog 163=true:=by kernel_rfl
theorem BU:AL Tryz.prog 74 1=some 1:=by kernel_rfl
theorem B5:D9 Tryz.prog 72=true:=by kernel_rfl
theorem AU:AT Tryz.prog 72=some (9,1,16):=by kernel_rfl
theorem M1:AA Tryz.prog 151=true:=by kernel_rfl
theorem EI:AL Tryz.prog 76 2=some 2:=by kernel_rfl
theorem M2:AL Tryz.prog 76 0=some 0:=by kernel_rfl
theorem DT:AL Tryz.prog 76 1=some 1:=by kernel_rfl
theorem C3:DV Tryz.prog 74=some 2:=by kernel_rfl
theorem OP:AA Tryz.prog 132=true:=by kernel_rfl
theorem OQ:AA Tryz.prog 150=true:=by kernel_rfl
theorem iC:AL Tryz.prog 104 0=some 0:=by kernel_rfl
theorem iD:AL Tryz.prog 104 1=some 1:=by kernel_rfl
theorem zL:AA Tryz.prog 181=true:=by kernel_rfl
theorem iE:AL Tryz.prog 106 1=some 1:=by kernel_rfl
theorem iF:AL Tryz.prog 106 2=some 2:=by kernel_rfl
theorem iG:DV Tryz.prog 104=some 2:=by kernel_rfl
theorem zM:AA Tryz.prog 125=true:=by kernel_rfl
theorem QZ:BV Tryz.prog 9=some (.string ⟨#[]⟩):=by kernel_rfl
theorem VI:CS Tryz.prog 9=some 1:=by kernel_rfl
theorem I6:BV Tryz.prog 74=some (.agg #[(.string ⟨#[]⟩),(.slice none 0 0)]):=by kernel_rfl
theorem zN:AA Tryz.prog 185=true:=by kernel_rfl
theorem A3D:CS Tryz.prog 72=some 1:=by kernel_rfl
theorem TP:CS Tryz.prog 74=some 2:=by kernel_rfl
theorem vU:BV Tryz.prog 76=some (.agg #[(.int .i64 0),(.string ⟨#[]⟩),(.string ⟨#[]⟩),(.slice none 0 0)]):=by kernel_rfl
theorem vV:AL Tryz.prog 106 0=some 0:=by kernel_rfl
theorem zO:AA Tryz.prog 131=true:=by kernel_rfl
theorem fM:DV Tryz.prog 76=some 4:=by kernel_rfl
theorem A1Q:CS Tryz.prog 76=some 4:=by kernel_rfl
theorem zP:AA Tryz.prog 188=true:=by kernel_rfl
theorem pC:AA Tryz.prog 135=true:=by kernel_rfl
theorem iH:AL Tryz.prog 191 0=some 0:=by kernel_rfl
theorem iI:AL Tryz.prog 191 1=some 1:=by kernel_rfl
theorem A3E:BV Tryz.prog 83=some (.agg #[(.string ⟨#[]⟩),(.slice none 0 0)]):=by kernel_rfl
theorem H6:AL Tryz.prog 83 0=some 0:=by kernel_rfl
theorem C4:AL Tryz.prog 83 1=some 1:=by kernel_rfl
theorem HA:DV Tryz.prog 83=some 2:=by kernel_rfl
theorem A1R:CS Tryz.prog 83=some 2:=by kernel_rfl
theorem iJ:AL Tryz.prog 193 1=some 1:=by kernel_rfl
theorem iK:DV Tryz.prog 191=some 2:=by kernel_rfl
theorem zQ:AA Tryz.prog 236=true:=by kernel_rfl
theorem iL:AL Tryz.prog 193 2=some 3:=by kernel_rfl
theorem iM:AL Tryz.prog 193 3=some 4:=by kernel_rfl
theorem MN:BV Tryz.prog 167=some (.agg #[(.int .i64 0),(.string ⟨#[]⟩),(.slice none 0 0),(.string ⟨#[]⟩),(.string ⟨#[]⟩)]):=by kernel_rfl
theorem vW:AL Tryz.prog 193 0=some 0:=by kernel_rfl
theorem C0:AL Tryz.prog 167 0=some 0:=by kernel_rfl
theorem zR:AA Tryz.prog 237=true:=by kernel_rfl
theorem CB:AL Tryz.prog 167 1=some 1:=by kernel_rfl
theorem EO:AL Tryz.prog 167 2=some 3:=by kernel_rfl
theorem D5:AL Tryz.prog 167 3=some 4:=by kernel_rfl
theorem D4:DV Tryz.prog 167=some 5:=by kernel_rfl
theorem M3:CS Tryz.prog 167=some 5:=by kernel_rfl
theorem zS:AA Tryz.prog 238=true:=by kernel_rfl
theorem iN:AL Tryz.prog 196 1=some 1:=by kernel_rfl
theorem pD:BV Tryz.prog 85=some (.agg #[(.int .i64 0),(.string ⟨#[]⟩),(.slice none 0 0)]):=by kernel_rfl
theorem vX:AL Tryz.prog 196 0=some 0:=by kernel_rfl
theorem Q2:AL Tryz.prog 85 0=some 0:=by kernel_rfl
theorem GM:AL Tryz.prog 85 1=some 1:=by kernel_rfl
theorem aX:DV Tryz.prog 85=some 3:=by kernel_rfl
theorem vY:CS Tryz.prog 85=some 3:=by kernel_rfl
theorem lR:AT Tryz.prog 99=some (193,5,80):=by kernel_rfl
theorem zT:DV Tryz.prog 193=some 5:=by kernel_rfl
theorem A3F:AA Tryz.prog 179=true:=by kernel_rfl
theorem D6:AT Tryz.prog 77=some (167,5,80):=by kernel_rfl
theorem A3G:AA Tryz.prog 183=true:=by kernel_rfl
theorem A3H:AA Tryz.prog 186=true:=by kernel_rfl
theorem W1:AT Tryz.prog 100=some (196,3,48):=by kernel_rfl
theorem zU:DV Tryz.prog 196=some 3:=by kernel_rfl
theorem A3I:AA Tryz.prog 180=true:=by kernel_rfl
theorem JJ:AT Tryz.prog 78=some (85,3,48):=by kernel_rfl
theorem A3J:AA Tryz.prog 184=true:=by kernel_rfl
theorem A3K:AA Tryz.prog 187=true:=by kernel_rfl
theorem iO:AL Tryz.prog 102 0=some 0:=by kernel_rfl
theorem iP:AL Tryz.prog 102 2=some 2:=by kernel_rfl
theorem A3L:D9 Tryz.prog 99=true:=by kernel_rfl
theorem A3M:AA Tryz.prog 123=true:=by kernel_rfl
theorem iQ:AL Tryz.prog 102 3=some 3:=by kernel_rfl
theorem zV:D9 Tryz.prog 100=true:=by kernel_rfl
theorem A3N:AA Tryz.prog 124=true:=by kernel_rfl
theorem lT:BV Tryz.prog 80=some (.agg #[(.string ⟨#[]⟩),(.int .i64 0),(.slice none 0 0),(.slice none 0 0)]):=by kernel_rfl
theorem JK:AL Tryz.prog 80 0=some 0:=by kernel_rfl
theorem vZ:AL Tryz.prog 102 1=some 1:=by kernel_rfl
theorem L4:AL Tryz.prog 80 1=some 1:=by kernel_rfl
theorem A3O:AA Tryz.prog 129=true:=by kernel_rfl
theorem CO:AL Tryz.prog 80 2=some 2:=by kernel_rfl
theorem A6L:CS Tryz.prog 77=some 1:=by kernel_rfl
theorem A3P:AA Tryz.prog 130=true:=by kernel_rfl
theorem HB:AL Tryz.prog 80 3=some 3:=by kernel_rfl
theorem A6M:CS Tryz.prog 78=some 1:=by kernel_rfl
theorem I7:DV Tryz.prog 80=some 4:=by kernel_rfl
theorem pE:CS Tryz.prog 80=some 4:=by kernel_rfl
theorem GN:D9 Tryz.prog 77=true:=by kernel_rfl
theorem A3Q:AA Tryz.prog 133=true:=by kernel_rfl
theorem PD:D9 Tryz.prog 78=true:=by kernel_rfl
theorem A3R:AA Tryz.prog 134=true:=by kernel_rfl
theorem iR:AL Tryz.prog 124 0=some 0:=by kernel_rfl
theorem SC:BV Tryz.prog 130=some (.agg #[(.string ⟨#[]⟩),(.slice none 0 0),(.int .i64 0)]):=by kernel_rfl
theorem IU:AL Tryz.prog 130 0=some 0:=by kernel_rfl
theorem wA:AL Tryz.prog 124 1=some 2:=by kernel_rfl
theorem F6:AL Tryz.prog 130 1=some 2:=by kernel_rfl
theorem P6:DV Tryz.prog 130=some 3:=by kernel_rfl
theorem TQ:CS Tryz.prog 130=some 3:=by kernel_rfl
theorem iS:AL Tryz.prog 126 0=some 0:=by kernel_rfl
theorem iT:AL Tryz.prog 126 1=some 1:=by kernel_rfl
theorem H7:D9 Tryz.prog 66=true:=by kernel_rfl
theorem A3S:AA Tryz.prog 142=true:=by kernel_rfl
theorem pG:BV Tryz.prog 71=some (.agg #[(.string ⟨#[]⟩),(.slice none 0 0)]):=by kernel_rfl
theorem IK:AL Tryz.prog 71 0=some 0:=by kernel_rfl
theorem A3T:AA Tryz.prog 156=true:=by kernel_rfl
theorem HC:AL Tryz.prog 71 1=some 1:=by kernel_rfl
theorem A3U:CS Tryz.prog 66=some 1:=by kernel_rfl
theorem VM:DV Tryz.prog 71=some 2:=by kernel_rfl
theorem wC:CS Tryz.prog 71=some 2:=by kernel_rfl
theorem zW:AA Tryz.prog 141=true:=by kernel_rfl
theorem lU:AT Tryz.prog 22=some (102,4,72):=by kernel_rfl
theorem zX:DV Tryz.prog 102=some 4:=by kernel_rfl
theorem A6N:AA Tryz.prog 59=true:=by kernel_rfl
theorem HD:AT Tryz.prog 29=some (80,4,72):=by kernel_rfl
theorem A6O:AA Tryz.prog 64=true:=by kernel_rfl
theorem A6P:AA Tryz.prog 70=true:=by kernel_rfl
theorem lV:AT Tryz.prog 23=some (124,3,48):=by kernel_rfl
theorem zY:DV Tryz.prog 124=some 3:=by kernel_rfl
theorem A6Q:AA Tryz.prog 84=true:=by kernel_rfl
theorem HJ:AT Tryz.prog 30=some (130,3,48):=by kernel_rfl
theorem A6R:AA Tryz.prog 98=true:=by kernel_rfl
theorem A3V:AA Tryz.prog 118=true:=by kernel_rfl
theorem lW:AT Tryz.prog 24=some (126,2,40):=by kernel_rfl
theorem zZ:DV Tryz.prog 126=some 2:=by kernel_rfl
theorem A6S:AA Tryz.prog 85=true:=by kernel_rfl
theorem JL:AT Tryz.prog 31=some (71,2,40):=by kernel_rfl
theorem A6T:AA Tryz.prog 99=true:=by kernel_rfl
theorem A3W:AA Tryz.prog 119=true:=by kernel_rfl
theorem lZ:AT Tryz.prog 25=some (106,4,64):=by kernel_rfl
theorem A0A:DV Tryz.prog 106=some 4:=by kernel_rfl
theorem A6U:AA Tryz.prog 60=true:=by kernel_rfl
theorem MU:AT Tryz.prog 32=some (76,4,64):=by kernel_rfl
theorem A6V:AA Tryz.prog 65=true:=by kernel_rfl
theorem A6W:AA Tryz.prog 71=true:=by kernel_rfl
theorem pH:AL Tryz.prog 27 0=some 0:=by kernel_rfl
theorem A3X:D9 Tryz.prog 22=true:=by kernel_rfl
theorem A6X:AA Tryz.prog 17=true:=by kernel_rfl
theorem pJ:AL Tryz.prog 27 1=some 1:=by kernel_rfl
theorem A3Y:D9 Tryz.prog 23=true:=by kernel_rfl
theorem A6Y:AA Tryz.prog 34=true:=by kernel_rfl
theorem pK:AL Tryz.prog 27 3=some 3:=by kernel_rfl
theorem A3Z:D9 Tryz.prog 24=true:=by kernel_rfl
theorem A6Z:AA Tryz.prog 35=true:=by kernel_rfl
theorem pL:AL Tryz.prog 27 5=some 5:=by kernel_rfl
theorem A3a:D9 Tryz.prog 25=true:=by kernel_rfl
theorem A6a:AA Tryz.prog 18=true:=by kernel_rfl
theorem A1S:BV Tryz.prog 34=some (.agg #[(.slice none 0 0),(.slice none 0 0),(.int .i64 0),(.slice none 0 0),(.bool false),(.slice none 0 0)]):=by kernel_rfl
theorem A6b:AA Tryz.prog 20=true:=by kernel_rfl
theorem JM:AL Tryz.prog 34 0=some 0:=by kernel_rfl
theorem A6c:CS Tryz.prog 29=some 1:=by kernel_rfl
theorem A6d:AA Tryz.prog 40=true:=by kernel_rfl
theorem J3:AL Tryz.prog 34 1=some 1:=by kernel_rfl
theorem A6e:CS Tryz.prog 30=some 1:=by kernel_rfl
theorem A1T:AL Tryz.prog 27 2=some 2:=by kernel_rfl
theorem K9:AL Tryz.prog 34 2=some 2:=by kernel_rfl
theorem A6f:AA Tryz.prog 41=true:=by kernel_rfl
theorem HM:AL Tryz.prog 34 3=some 3:=by kernel_rfl
theorem A6g:CS Tryz.prog 31=some 1:=by kernel_rfl
theorem A1U:AL Tryz.prog 27 4=some 4:=by kernel_rfl
theorem o_4:D9 Tryz.prog 4=true:=by kernel_rfl
theorem fN:AL Tryz.prog 34 4=some 4:=by kernel_rfl
theorem z_4:CS Tryz.prog 4=some 1:=by kernel_rfl
theorem A6h:AA Tryz.prog 21=true:=by kernel_rfl
theorem L5:AL Tryz.prog 34 5=some 5:=by kernel_rfl
theorem A6i:CS Tryz.prog 32=some 1:=by kernel_rfl
theorem YR:DV Tryz.prog 34=some 6:=by kernel_rfl
theorem A3b:CS Tryz.prog 34=some 6:=by kernel_rfl
theorem TR:D9 Tryz.prog 29=true:=by kernel_rfl
theorem A6j:AA Tryz.prog 23=true:=by kernel_rfl
theorem VN:D9 Tryz.prog 30=true:=by kernel_rfl
theorem A6k:AA Tryz.prog 51=true:=by kernel_rfl
theorem P7:D9 Tryz.prog 31=true:=by kernel_rfl
theorem A6l:AA Tryz.prog 52=true:=by kernel_rfl
theorem A6m:Tryz.prog.underlying 4=some .bool:=by kernel_rfl
theorem aY:D9 Tryz.prog 32=true:=by kernel_rfl
theorem A6n:AA Tryz.prog 24=true:=by kernel_rfl
theorem aZ:AA Tryz.prog 173=true:=by kernel_rfl
theorem SD:AA Tryz.prog 211=true:=by kernel_rfl
theorem TS:AA Tryz.prog 172=true:=by kernel_rfl
theorem TT:AA Tryz.prog 210=true:=by kernel_rfl
theorem bA:AA Tryz.prog 113=true:=by kernel_rfl
theorem iU:AA Tryz.prog 251=true:=by kernel_rfl
theorem bB:AA Tryz.prog 152=true:=by kernel_rfl
theorem pM:AA Tryz.prog 201=true:=by kernel_rfl
theorem A3c:AA Tryz.prog 254=true:=by kernel_rfl
theorem TU:AA Tryz.prog 248=true:=by kernel_rfl
theorem pN:AA Tryz.prog 158=true:=by kernel_rfl
theorem A3d:AA Tryz.prog 276=true:=by kernel_rfl
theorem pP:AA Tryz.prog 220=true:=by kernel_rfl
theorem pR:AA Tryz.prog 222=true:=by kernel_rfl
theorem bC:AA Tryz.prog 207=true:=by kernel_rfl
theorem pS:AA Tryz.prog 252=true:=by kernel_rfl
theorem iV:AA Tryz.prog 221=true:=by kernel_rfl
theorem iW:AA Tryz.prog 202=true:=by kernel_rfl
theorem bD:AA Tryz.prog 203=true:=by kernel_rfl
theorem A0B:AA Tryz.prog 218=true:=by kernel_rfl
theorem A3e:AA Tryz.prog 253=true:=by kernel_rfl
theorem pT:AA Tryz.prog 216=true:=by kernel_rfl
theorem A0C:AA Tryz.prog 217=true:=by kernel_rfl
theorem A3f:AA Tryz.prog 219=true:=by kernel_rfl
theorem A3g:AA Tryz.prog 223=true:=by kernel_rfl
theorem pU:AA Tryz.prog 200=true:=by kernel_rfl
theorem pV:AA Tryz.prog 204=true:=by kernel_rfl
theorem A3h:AA Tryz.prog 205=true:=by kernel_rfl
theorem A3i:AA Tryz.prog 206=true:=by kernel_rfl
theorem A3j:AA Tryz.prog 208=true:=by kernel_rfl
theorem A3k:AA Tryz.prog 159=true:=by kernel_rfl
theorem pW:AA Tryz.prog 160=true:=by kernel_rfl
theorem A0D:AA Tryz.prog 145=true:=by kernel_rfl
theorem pX:AA Tryz.prog 146=true:=by kernel_rfl
theorem A3m:AA Tryz.prog 175=true:=by kernel_rfl
theorem A3n:AA Tryz.prog 182=true:=by kernel_rfl
theorem qA:AA Tryz.prog 162=true:=by kernel_rfl
theorem A3o:AA Tryz.prog 286=true:=by kernel_rfl
theorem pY:AT Tryz.prog 165=some (5,1,1):=by kernel_rfl
theorem y_5:BV Tryz.prog 5=some (.int .u8 0):=by kernel_rfl
theorem YS:Tryz.prog.underlying 165=some (.slice 5):=by kernel_rfl
theorem A0E:AA Tryz.prog 275=true:=by kernel_rfl
theorem A3p:AA Tryz.prog 271=true:=by kernel_rfl
theorem A3q:AA Tryz.prog 272=true:=by kernel_rfl
theorem iX:AA Tryz.prog 235=true:=by kernel_rfl
theorem LP:AA Tryz.prog 178=true:=by kernel_rfl
theorem A0F:AA Tryz.prog 176=true:=by kernel_rfl
theorem qB:AA Tryz.prog 249=true:=by kernel_rfl
theorem A0G:AA Tryz.prog 212=true:=by kernel_rfl
theorem A3r:AA Tryz.prog 177=true:=by kernel_rfl
theorem A0H:AA Tryz.prog 213=true:=by kernel_rfl
theorem B1:AT Tryz.prog 62=some (74,2,40):=by kernel_rfl
theorem A0I:AA Tryz.prog 117=true:=by kernel_rfl
theorem A0J:AA Tryz.prog 155=true:=by kernel_rfl
theorem A0K:L3 Tryz.prog 74=some ([(0,1),(1,1)],[(.string ⟨#[]⟩),(.slice none 0 0)]):=by kernel_rfl
theorem A3s:AA Tryz.prog 144=true:=by kernel_rfl
theorem iY:AA Tryz.prog 101=true:=by kernel_rfl
theorem wD:AA Tryz.prog 87=true:=by kernel_rfl
theorem qC:Tryz.prog.underlying 179=some (.map 3 4):=by kernel_rfl
theorem y_4:BV Tryz.prog 4=some (.bool false):=by kernel_rfl
theorem A0L:AA Tryz.prog 109=true:=by kernel_rfl
theorem A3t:AA Tryz.prog 161=true:=by kernel_rfl
theorem A0M:AA Tryz.prog 137=true:=by kernel_rfl
theorem A0N:AA Tryz.prog 147=true:=by kernel_rfl
theorem J5:Tryz.prog.underlying 268=some (.int .u64):=by kernel_rfl
theorem A3z:AA Tryz.prog 282=true:=by kernel_rfl
theorem A4A:AA Tryz.prog 293=true:=by kernel_rfl
theorem A4B:AA Tryz.prog 283=true:=by kernel_rfl
theorem G8:AT Tryz.prog 259=some (3,1,8):=by kernel_rfl
theorem wE:AL Tryz.prog 273 0=some 0:=by kernel_rfl
theorem A4C:D9 Tryz.prog 257=true:=by kernel_rfl
theorem A4D:AA Tryz.prog 374=true:=by kernel_rfl
theorem A1V:L3 Tryz.prog 273=some ([(0,1)],[.nilIface]):=by kernel_rfl
theorem A1W:Tryz.prog.underlying 271=some (.pointer 273):=by kernel_rfl
theorem A4E:AA Tryz.prog 45=true:=by kernel_rfl
theorem A4F:AA Tryz.prog 269=true:=by kernel_rfl
theorem A4G:AA Tryz.prog 268=true:=by kernel_rfl
theorem CU:AT Tryz.prog 63=some (171,2,32):=by kernel_rfl
theorem GC:BV Tryz.prog 171=some (.agg #[(.string ⟨#[]⟩),(.string ⟨#[]⟩)]):=by kernel_rfl
theorem YT:BV Tryz.prog 65=some (.agg #[(.string ⟨#[]⟩),(.slice none 0 0),(.slice none 0 0)]):=by kernel_rfl
theorem LA:AL Tryz.prog 65 0=some 0:=by kernel_rfl
theorem HN:AL Tryz.prog 65 1=some 1:=by kernel_rfl
theorem HK:D9 Tryz.prog 62=true:=by kernel_rfl
theorem Q3:AL Tryz.prog 65 2=some 2:=by kernel_rfl
theorem Q4:D9 Tryz.prog 63=true:=by kernel_rfl
theorem A0O:AA Tryz.prog 225=true:=by kernel_rfl
theorem qD:AA Tryz.prog 226=true:=by kernel_rfl
theorem iZ:L3 Tryz.prog 65=some ([(0,1),(1,1),(2,1)],[(.string ⟨#[]⟩),(.slice none 0 0),(.slice none 0 0)]):=by kernel_rfl
theorem wF:CS Tryz.prog 65=some 3:=by kernel_rfl
theorem TV:DV Tryz.prog 65=some 3:=by kernel_rfl
theorem qE:AA Tryz.prog 240=true:=by kernel_rfl
theorem jA:AA Tryz.prog 241=true:=by kernel_rfl
theorem A0P:AA Tryz.prog 116=true:=by kernel_rfl
theorem A4H:AA Tryz.prog 128=true:=by kernel_rfl
theorem A4I:AA Tryz.prog 227=true:=by kernel_rfl
theorem A6v:AA Tryz.prog 95=true:=by kernel_rfl
theorem PE:BV Tryz.prog 68=some (.agg #[(.string ⟨#[]⟩),(.slice none 0 0),(.slice none 0 0),(.int .i64 0),(.slice none 0 0),(.int .i64 0),(.int .i64 0)]):=by kernel_rfl
theorem OJ:CS Tryz.prog 68=some 7:=by kernel_rfl
theorem IM:DV Tryz.prog 68=some 7:=by kernel_rfl
theorem A6w:AA Tryz.prog 48=true:=by kernel_rfl
theorem A0Q:AA Tryz.prog 165=true:=by kernel_rfl
theorem A4J:AA Tryz.prog 166=true:=by kernel_rfl
theorem A4K:AA Tryz.prog 167=true:=by kernel_rfl
theorem jB:L3 Tryz.prog 68=some ([(0,3),(3,1),(4,1),(5,1),(6,1)],[(.string ⟨#[]⟩),(.slice none 0 0),(.slice none 0 0),(iv 0),(.slice none 0 0),(iv 0),(iv 0)]):=by kernel_rfl
theorem A4L:AA Tryz.prog 190=true:=by kernel_rfl
theorem A1X:AA Tryz.prog 88=true:=by kernel_rfl
theorem A4M:AA Tryz.prog 89=true:=by kernel_rfl
theorem A4N:AA Tryz.prog 191=true:=by kernel_rfl
theorem A0R:AA Tryz.prog 192=true:=by kernel_rfl
theorem A4O:AA Tryz.prog 193=true:=by kernel_rfl
theorem M4:DV Tryz.prog 171=some 2:=by kernel_rfl
theorem qF:CS Tryz.prog 171=some 2:=by kernel_rfl
theorem GJ:AL Tryz.prog 171 0=some 0:=by kernel_rfl
theorem KU:AL Tryz.prog 171 1=some 1:=by kernel_rfl
theorem jC:AA Tryz.prog 114=true:=by kernel_rfl
theorem qG:AA Tryz.prog 115=true:=by kernel_rfl
theorem jD:AA Tryz.prog 153=true:=by kernel_rfl
theorem qH:AA Tryz.prog 154=true:=by kernel_rfl
theorem A4P:AA Tryz.prog 345=true:=by kernel_rfl
theorem A4Q:AA Tryz.prog 280=true:=by kernel_rfl
theorem A4R:AA Tryz.prog 330=true:=by kernel_rfl
theorem A4S:AA Tryz.prog 289=true:=by kernel_rfl
theorem A0S:AA Tryz.prog 344=true:=by kernel_rfl
theorem A0T:AA Tryz.prog 256=true:=by kernel_rfl
theorem A0U:AA Tryz.prog 309=true:=by kernel_rfl
theorem A0V:AA Tryz.prog 278=true:=by kernel_rfl
theorem A4T:AA Tryz.prog 279=true:=by kernel_rfl
theorem A0W:AA Tryz.prog 328=true:=by kernel_rfl
theorem A4U:AA Tryz.prog 329=true:=by kernel_rfl
theorem LQ:BV Tryz.prog 220=some (.agg #[(.slice none 0 0),(.slice none 0 0)]):=by kernel_rfl
theorem FA:AL Tryz.prog 220 0=some 0:=by kernel_rfl
theorem L8:AL Tryz.prog 220 1=some 1:=by kernel_rfl
theorem TW:L3 Tryz.prog 220=some ([(0,1),(1,1)],[(.slice none 0 0),(.slice none 0 0)]):=by kernel_rfl
theorem qI:CS Tryz.prog 220=some 2:=by kernel_rfl
theorem bE:DV Tryz.prog 220=some 2:=by kernel_rfl
theorem FW:AT Tryz.prog 217=some (220,2,48):=by kernel_rfl
theorem A4V:AA Tryz.prog 307=true:=by kernel_rfl
theorem A4W:AA Tryz.prog 308=true:=by kernel_rfl
theorem A4X:AA Tryz.prog 287=true:=by kernel_rfl
theorem A4Y:AA Tryz.prog 273=true:=by kernel_rfl
theorem MO:AT Tryz.prog 143=some (65,3,64):=by kernel_rfl
theorem A4Z:AA Tryz.prog 239=true:=by kernel_rfl
theorem A4a:AA Tryz.prog 189=true:=by kernel_rfl
theorem A4b:AA Tryz.prog 148=true:=by kernel_rfl
theorem F7:AL Tryz.prog 68 0=some 0:=by kernel_rfl
theorem IL:AL Tryz.prog 68 2=some 4:=by kernel_rfl
theorem A4c:AA Tryz.prog 149=true:=by kernel_rfl
theorem A0X:AA Tryz.prog 103=true:=by kernel_rfl
theorem A0Y:AA Tryz.prog 104=true:=by kernel_rfl
theorem A4d:AA Tryz.prog 105=true:=by kernel_rfl
theorem A4e:AA Tryz.prog 106=true:=by kernel_rfl
theorem A4f:AA Tryz.prog 107=true:=by kernel_rfl
theorem A6x:AA Tryz.prog 91=true:=by kernel_rfl
theorem A4g:AA Tryz.prog 92=true:=by kernel_rfl
theorem A6y:AA Tryz.prog 93=true:=by kernel_rfl
theorem bF:AA Tryz.prog 242=true:=by kernel_rfl
theorem J4:AL Tryz.prog 68 1=some 3:=by kernel_rfl
theorem A0Z:AA Tryz.prog 232=true:=by kernel_rfl
theorem HO:AL Tryz.prog 68 3=some 5:=by kernel_rfl
theorem HP:AL Tryz.prog 68 4=some 6:=by kernel_rfl
theorem A0a:AA Tryz.prog 233=true:=by kernel_rfl
theorem A0b:AA Tryz.prog 244=true:=by kernel_rfl
theorem A4h:AA Tryz.prog 243=true:=by kernel_rfl
theorem A4i:AA Tryz.prog 245=true:=by kernel_rfl
theorem qJ:D9 Tryz.prog 55=true:=by kernel_rfl
theorem EV:AT Tryz.prog 55=some (68,7,112):=by kernel_rfl
theorem A4j:AA Tryz.prog 171=true:=by kernel_rfl
theorem A6z:AA Tryz.prog 38=true:=by kernel_rfl
theorem S5:AL Tryz.prog 232 1=some 1:=by kernel_rfl
theorem jE:D9 Tryz.prog 228=true:=by kernel_rfl
theorem EM:DV Tryz.prog 232=some 2:=by kernel_rfl
theorem qK:AA Tryz.prog 290=true:=by kernel_rfl
theorem P8:AL Tryz.prog 232 0=some 0:=by kernel_rfl
theorem bH:D9 Tryz.prog 186=true:=by kernel_rfl
theorem A0c:AA Tryz.prog 281=true:=by kernel_rfl
theorem FX:AA Tryz.prog 267=true:=by kernel_rfl
theorem A0d:AA Tryz.prog 266=true:=by kernel_rfl
theorem A4k:BV Tryz.prog 226=some (.agg #[(.pointer none),(.pointer none),(.int .u64 0)]):=by kernel_rfl
theorem A4l:CS Tryz.prog 226=some 3:=by kernel_rfl
theorem A4m:DV Tryz.prog 226=some 3:=by kernel_rfl
theorem A4n:AA Tryz.prog 230=true:=by kernel_rfl
theorem A7A:BV Tryz.prog 55=some (.slice none 0 0):=by kernel_rfl
theorem A4o:AA Tryz.prog 168=true:=by kernel_rfl
theorem A7B:CS Tryz.prog 55=some 1:=by kernel_rfl
theorem A4p:AA Tryz.prog 169=true:=by kernel_rfl
theorem qL:AA Tryz.prog 194=true:=by kernel_rfl
theorem A4q:AA Tryz.prog 195=true:=by kernel_rfl
theorem A4r:AA Tryz.prog 255=true:=by kernel_rfl
theorem A4s:AA Tryz.prog 224=true:=by kernel_rfl
theorem A4t:AA Tryz.prog 164=true:=by kernel_rfl
theorem A4u:AA Tryz.prog 108=true:=by kernel_rfl
theorem A4v:AA Tryz.prog 110=true:=by kernel_rfl
theorem A4w:AA Tryz.prog 111=true:=by kernel_rfl
theorem A4x:AA Tryz.prog 112=true:=by kernel_rfl
theorem A4y:AA Tryz.prog 136=true:=by kernel_rfl
theorem A4z:AA Tryz.prog 138=true:=by kernel_rfl
theorem A5A:AA Tryz.prog 139=true:=by kernel_rfl
theorem A7C:AA Tryz.prog 43=true:=by kernel_rfl
theorem A7D:AA Tryz.prog 44=true:=by kernel_rfl
theorem A7E:AA Tryz.prog 37=true:=by kernel_rfl
theorem A7F:AA Tryz.prog 76=true:=by kernel_rfl
theorem A5B:AA Tryz.prog 30=true:=by kernel_rfl
theorem A7L:AA Tryz.prog 29=true:=by kernel_rfl
theorem qM:DV Tryz.prog 27=some 6:=by kernel_rfl
theorem b_8:AA Tryz.prog 8=true:=by kernel_rfl
theorem wG:AA Tryz.prog 10=true:=by kernel_rfl
theorem C3k:AA Tryz.prog 27=true:=by kernel_rfl
theorem C3r:AA Tryz.prog 28=true:=by kernel_rfl
theorem A7M:AA Tryz.prog 12=true:=by kernel_rfl
end Go.Sy
