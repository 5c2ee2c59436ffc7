/-
  Closed facts about the program's tables.
  Conditions: none.
-/
import Derived.Test.YtmjmglkogcomaaaGreatDoorProg
import Derived.Test.YtmjmglkogcomaaaGreatDoorTypes
set_option maxRecDepth 20000
namespace Go.Sy
open Go Go.RowKit Go.Proofs
abbrev Cy(f:Nat)(vs:List Value)(w:World)(R:Ending->World->Prop):Prop:=Calls Tryz.prog f vs.toArray w R
theorem mixed:Tryz.prog.follows .mixedOrders=true:=by kernel_rfl
theorem F5:Tryz.prog.underlying 9=some .string:=by kernel_rfl
theorem LO:Tryz.prog.underlying 3=some (.int .i64):=by kernel_rfl
theorem VL:Tryz.prog.underlying 5=some (.int .u8):=by kernel_rfl
theorem B3Y:AA Tryz.prog 96=true:=by kernel_rfl
theorem pZ:AA Tryz.prog 75=true:=by kernel_rfl
theorem A6v:AA Tryz.prog 95=true:=by kernel_rfl
theorem C5V:AL Tryz.prog 32 0=some 0:=by kernel_rfl
theorem BK:D9 Tryz.prog 9=true:=by kernel_rfl
theorem A6p:AA Tryz.prog 74=true:=by kernel_rfl
theorem C4Q:AL Tryz.prog 32 1=some 1:=by kernel_rfl
theorem VN:D9 Tryz.prog 30=true:=by kernel_rfl
theorem HJ:AT Tryz.prog 30=some (9,1,16):=by kernel_rfl
theorem B3t:AA Tryz.prog 56=true:=by kernel_rfl
theorem C1S:AL Tryz.prog 58 2=some 2:=by kernel_rfl
theorem C1y:AL Tryz.prog 58 0=some 0:=by kernel_rfl
theorem CJ:D9 Tryz.prog 3=true:=by kernel_rfl
theorem C1W:AL Tryz.prog 58 1=some 1:=by kernel_rfl
theorem C4N:DV Tryz.prog 32=some 2:=by kernel_rfl
theorem A6Y:AA Tryz.prog 34=true:=by kernel_rfl
theorem B3s:AA Tryz.prog 55=true:=by kernel_rfl
theorem A3Q:AA Tryz.prog 133=true:=by kernel_rfl
theorem pP:AA Tryz.prog 220=true:=by kernel_rfl
theorem B6e:AL Tryz.prog 92 0=some 0:=by kernel_rfl
theorem B6C:AL Tryz.prog 92 1=some 1:=by kernel_rfl
theorem OP:AA Tryz.prog 132=true:=by kernel_rfl
theorem A3f:AA Tryz.prog 219=true:=by kernel_rfl
theorem C4z:AL Tryz.prog 115 0=some 0:=by kernel_rfl
theorem C4h:AL Tryz.prog 115 1=some 1:=by kernel_rfl
theorem B8m:DV Tryz.prog 92=some 2:=by kernel_rfl
theorem A4g:AA Tryz.prog 92=true:=by kernel_rfl
theorem C5X:AL Tryz.prog 115 2=some 3:=by kernel_rfl
theorem C5S:AL Tryz.prog 115 3=some 4:=by kernel_rfl
theorem jD:AA Tryz.prog 153=true:=by kernel_rfl
theorem TS:AA Tryz.prog 172=true:=by kernel_rfl
theorem C4n:DV Tryz.prog 115=some 5:=by kernel_rfl
theorem A3F:AA Tryz.prog 179=true:=by kernel_rfl
theorem C5n:AL Tryz.prog 94 0=some 0:=by kernel_rfl
theorem C5f:AL Tryz.prog 94 1=some 1:=by kernel_rfl
theorem QZ:BV Tryz.prog 9=some (.string ⟨#[]⟩):=by kernel_rfl
theorem A3T:AA Tryz.prog 156=true:=by kernel_rfl
theorem qD:AA Tryz.prog 226=true:=by kernel_rfl
theorem A6S:AA Tryz.prog 85=true:=by kernel_rfl
theorem qL:AA Tryz.prog 194=true:=by kernel_rfl
theorem B3V:AA Tryz.prog 120=true:=by kernel_rfl
theorem A3y:AA Tryz.prog 122=true:=by kernel_rfl
theorem zN:AA Tryz.prog 185=true:=by kernel_rfl
theorem C4x:AL Tryz.prog 78 2=some 2:=by kernel_rfl
theorem C5a:D9 Tryz.prog 75=true:=by kernel_rfl
theorem C5F:AT Tryz.prog 75=some (115,5,80):=by kernel_rfl
theorem C5Q:BV Tryz.prog 115=some (.agg #[(.int .i64 0),(.string ⟨#[]⟩),(.slice none 0 0),(.string ⟨#[]⟩),(.string ⟨#[]⟩)]):=by kernel_rfl
theorem C5R:CS Tryz.prog 115=some 5:=by kernel_rfl
theorem qH:AA Tryz.prog 154=true:=by kernel_rfl
theorem B3W:AA Tryz.prog 121=true:=by kernel_rfl
theorem C5B:AL Tryz.prog 78 3=some 3:=by kernel_rfl
theorem C5s:D9 Tryz.prog 76=true:=by kernel_rfl
theorem C5g:AT Tryz.prog 76=some (94,3,48):=by kernel_rfl
theorem C6K:DV Tryz.prog 94=some 3:=by kernel_rfl
theorem C6I:BV Tryz.prog 94=some (.agg #[(.int .i64 0),(.string ⟨#[]⟩),(.slice none 0 0)]):=by kernel_rfl
theorem C6U:CS Tryz.prog 94=some 3:=by kernel_rfl
theorem A3I:AA Tryz.prog 180=true:=by kernel_rfl
theorem zL:AA Tryz.prog 181=true:=by kernel_rfl
theorem C5D:DV Tryz.prog 78=some 4:=by kernel_rfl
theorem A3V:AA Tryz.prog 118=true:=by kernel_rfl
theorem A0J:AA Tryz.prog 155=true:=by kernel_rfl
theorem lW:AT Tryz.prog 24=some (78,4,72):=by kernel_rfl
theorem C5q:BV Tryz.prog 78=some (.agg #[(.string ⟨#[]⟩),(.int .i64 0),(.slice none 0 0),(.slice none 0 0)]):=by kernel_rfl
theorem A6M:CS Tryz.prog 78=some 4:=by kernel_rfl
theorem C5t:AL Tryz.prog 78 0=some 0:=by kernel_rfl
theorem C6L:AL Tryz.prog 78 1=some 1:=by kernel_rfl
theorem A0P:AA Tryz.prog 116=true:=by kernel_rfl
theorem A0I:AA Tryz.prog 117=true:=by kernel_rfl
theorem A3W:AA Tryz.prog 119=true:=by kernel_rfl
theorem A3M:AA Tryz.prog 123=true:=by kernel_rfl
theorem LP:AA Tryz.prog 178=true:=by kernel_rfl
theorem A3n:AA Tryz.prog 182=true:=by kernel_rfl
theorem A3G:AA Tryz.prog 183=true:=by kernel_rfl
theorem A3J:AA Tryz.prog 184=true:=by kernel_rfl
theorem A3H:AA Tryz.prog 186=true:=by kernel_rfl
theorem A3l:AA Tryz.prog 80=true:=by kernel_rfl
theorem A7I:AA Tryz.prog 81=true:=by kernel_rfl
theorem pX:AA Tryz.prog 146=true:=by kernel_rfl
theorem A0N:AA Tryz.prog 147=true:=by kernel_rfl
theorem C8T:AA Tryz.prog 231=true:=by kernel_rfl
theorem lU:AT Tryz.prog 22=some (5,1,1):=by kernel_rfl
theorem y_5:BV Tryz.prog 5=some (.int .u8 0):=by kernel_rfl
theorem B8g:Tryz.prog.underlying 22=some (.slice 5):=by kernel_rfl
theorem A3s:AA Tryz.prog 144=true:=by kernel_rfl
theorem A0R:AA Tryz.prog 192=true:=by kernel_rfl
theorem A4O:AA Tryz.prog 193=true:=by kernel_rfl
theorem bB:AA Tryz.prog 152=true:=by kernel_rfl
theorem qG:AA Tryz.prog 115=true:=by kernel_rfl
theorem bA:AA Tryz.prog 113=true:=by kernel_rfl
theorem B3P:AA Tryz.prog 247=true:=by kernel_rfl
theorem iV:AA Tryz.prog 221=true:=by kernel_rfl
theorem jC:AA Tryz.prog 114=true:=by kernel_rfl
theorem pR:AA Tryz.prog 222=true:=by kernel_rfl
theorem B3Q:AA Tryz.prog 250=true:=by kernel_rfl
theorem B6O:BV Tryz.prog 92=some (.agg #[(.string ⟨#[]⟩),(.slice none 0 0)]):=by kernel_rfl
theorem C8U:AA Tryz.prog 313=true:=by kernel_rfl
theorem B8l:L3 Tryz.prog 92=some ([(0,1),(1,1)],[(.string ⟨#[]⟩),(.slice none 0 0)]):=by kernel_rfl
theorem C0I:CS Tryz.prog 92=some 2:=by kernel_rfl
theorem C8V:AA Tryz.prog 300=true:=by kernel_rfl
theorem PC:CS Tryz.prog 3=some 1:=by kernel_rfl
theorem C6y:AA Tryz.prog 301=true:=by kernel_rfl
theorem C6i:L3 Tryz.prog 94=some ([(0,1),(1,2)],[(iv 0),(.string ⟨#[]⟩),(.slice none 0 0)]):=by kernel_rfl
theorem A3z:AA Tryz.prog 282=true:=by kernel_rfl
theorem C8I:CS Tryz.prog 75=some 1:=by kernel_rfl
theorem A4B:AA Tryz.prog 283=true:=by kernel_rfl
theorem A1Q:CS Tryz.prog 76=some 1:=by kernel_rfl
theorem iU:AA Tryz.prog 251=true:=by kernel_rfl
theorem C4y:AT Tryz.prog 41=some (32,2,40):=by kernel_rfl
theorem C5d:BV Tryz.prog 32=some (.agg #[(.string ⟨#[]⟩),(.slice none 0 0)]):=by kernel_rfl
theorem A6i:CS Tryz.prog 32=some 2:=by kernel_rfl
theorem A7F:AA Tryz.prog 76=true:=by kernel_rfl
theorem A3m:AA Tryz.prog 175=true:=by kernel_rfl
theorem C8D:L3 Tryz.prog 32=some ([(0,1),(1,1)],[(.string ⟨#[]⟩),(.slice none 0 0)]):=by kernel_rfl
theorem B2w:AA Tryz.prog 86=true:=by kernel_rfl
theorem lZ:AT Tryz.prog 25=some (80,3,48):=by kernel_rfl
theorem I7:DV Tryz.prog 80=some 3:=by kernel_rfl
theorem lT:BV Tryz.prog 80=some (.agg #[(.string ⟨#[]⟩),(.slice none 0 0),(.int .i64 0)]):=by kernel_rfl
theorem pE:CS Tryz.prog 80=some 3:=by kernel_rfl
theorem JK:AL Tryz.prog 80 0=some 0:=by kernel_rfl
theorem A6w:AA Tryz.prog 48=true:=by kernel_rfl
theorem B3a:AA Tryz.prog 49=true:=by kernel_rfl
theorem L4:AL Tryz.prog 80 1=some 2:=by kernel_rfl
theorem C7d:Tryz.prog.underlying 120=some (.map 3 4):=by kernel_rfl
theorem y_4:BV Tryz.prog 4=some (.bool false):=by kernel_rfl
theorem B4V:AA Tryz.prog 15=true:=by kernel_rfl
theorem A7J:AA Tryz.prog 82=true:=by kernel_rfl
theorem B4U:AA Tryz.prog 16=true:=by kernel_rfl
theorem A4j:AA Tryz.prog 171=true:=by kernel_rfl
theorem C1s:AT Tryz.prog 47=some (3,1,8):=by kernel_rfl
theorem C5u:AL Tryz.prog 49 0=some 0:=by kernel_rfl
theorem C5l:AL Tryz.prog 49 1=some 1:=by kernel_rfl
theorem C2J:D9 Tryz.prog 47=true:=by kernel_rfl
theorem A7K:AA Tryz.prog 83=true:=by kernel_rfl
theorem C6c:AL Tryz.prog 108 2=some 2:=by kernel_rfl
theorem C6d:AL Tryz.prog 108 1=some 1:=by kernel_rfl
theorem C7P:AL Tryz.prog 108 0=some 0:=by kernel_rfl
theorem A3X:D9 Tryz.prog 22=true:=by kernel_rfl
theorem o_5:D9 Tryz.prog 5=true:=by kernel_rfl
theorem A4d:AA Tryz.prog 105=true:=by kernel_rfl
theorem B4D:AA Tryz.prog 61=true:=by kernel_rfl
theorem C7e:L3 Tryz.prog 108=some ([(0,1),(1,1),(2,1)],[(.slice none 0 0),(iv 0),(iv 0)]):=by kernel_rfl
theorem A0D:AA Tryz.prog 145=true:=by kernel_rfl
theorem vH:BV Tryz.prog 3=some (.int .i64 0):=by kernel_rfl
theorem A4v:AA Tryz.prog 110=true:=by kernel_rfl
theorem A4w:AA Tryz.prog 111=true:=by kernel_rfl
theorem A6e:CS Tryz.prog 30=some 1:=by kernel_rfl
theorem A6W:AA Tryz.prog 71=true:=by kernel_rfl
theorem A4e:AA Tryz.prog 106=true:=by kernel_rfl
theorem VI:CS Tryz.prog 9=some 1:=by kernel_rfl
theorem B2z:AA Tryz.prog 69=true:=by kernel_rfl
theorem TU:AA Tryz.prog 248=true:=by kernel_rfl
theorem B3u:AA Tryz.prog 57=true:=by kernel_rfl
theorem A3g:AA Tryz.prog 223=true:=by kernel_rfl
theorem C6s:L3 Tryz.prog 115=some ([(0,1),(1,2),(3,1),(4,1)],[(iv 0),(.string ⟨#[]⟩),(.slice none 0 0),(.string ⟨#[]⟩),(.string ⟨#[]⟩)]):=by kernel_rfl
theorem qB:AA Tryz.prog 249=true:=by kernel_rfl
theorem A0O:AA Tryz.prog 225=true:=by kernel_rfl
theorem C7f:L3 Tryz.prog 78=some ([(0,1),(1,1),(2,1),(3,1)],[(.string ⟨#[]⟩),(iv 0),(.slice none 0 0),(.slice none 0 0)]):=by kernel_rfl
theorem A4s:AA Tryz.prog 224=true:=by kernel_rfl
theorem A3r:AA Tryz.prog 177=true:=by kernel_rfl
theorem A0F:AA Tryz.prog 176=true:=by kernel_rfl
theorem B3U:AA Tryz.prog 143=true:=by kernel_rfl
theorem OQ:AA Tryz.prog 150=true:=by kernel_rfl
theorem C5A:AT Tryz.prog 50=some (159,2,32):=by kernel_rfl
theorem A4Z:AA Tryz.prog 239=true:=by kernel_rfl
theorem SD:AA Tryz.prog 211=true:=by kernel_rfl
theorem A4L:AA Tryz.prog 190=true:=by kernel_rfl
theorem A4c:AA Tryz.prog 149=true:=by kernel_rfl
theorem A4x:AA Tryz.prog 112=true:=by kernel_rfl
theorem A4J:AA Tryz.prog 166=true:=by kernel_rfl
theorem A4K:AA Tryz.prog 167=true:=by kernel_rfl
theorem A3R:AA Tryz.prog 134=true:=by kernel_rfl
theorem C5i:BV Tryz.prog 29=some (.agg #[(.slice none 0 0),(.slice none 0 0),(.int .i64 0),(.slice none 0 0),(.bool false),(.slice none 0 0)]):=by kernel_rfl
theorem A4f:AA Tryz.prog 107=true:=by kernel_rfl
theorem A6c:CS Tryz.prog 29=some 6:=by kernel_rfl
theorem C4u:DV Tryz.prog 29=some 6:=by kernel_rfl
theorem B3Z:AA Tryz.prog 97=true:=by kernel_rfl
theorem C6r:L3 Tryz.prog 29=some ([(0,1),(1,1),(2,1),(3,1),(4,1),(5,1)],[(.slice none 0 0),(.slice none 0 0),(iv 0),(.slice none 0 0),(.bool false),(.slice none 0 0)]):=by kernel_rfl
theorem A6Q:AA Tryz.prog 84=true:=by kernel_rfl
theorem A7H:AA Tryz.prog 79=true:=by kernel_rfl
theorem A7G:AA Tryz.prog 78=true:=by kernel_rfl
theorem A6z:AA Tryz.prog 38=true:=by kernel_rfl
theorem A6u:AA Tryz.prog 77=true:=by kernel_rfl
theorem C5h:AL Tryz.prog 29 0=some 0:=by kernel_rfl
theorem A3Z:D9 Tryz.prog 24=true:=by kernel_rfl
theorem C4l:AL Tryz.prog 29 1=some 1:=by kernel_rfl
theorem A3a:D9 Tryz.prog 25=true:=by kernel_rfl
theorem C5G:AL Tryz.prog 29 3=some 3:=by kernel_rfl
theorem C6A:D9 Tryz.prog 26=true:=by kernel_rfl
theorem C5k:AT Tryz.prog 26=some (49,2,40):=by kernel_rfl
theorem C4O:AL Tryz.prog 29 5=some 5:=by kernel_rfl
theorem C5U:D9 Tryz.prog 27=true:=by kernel_rfl
theorem C4v:AT Tryz.prog 27=some (58,4,64):=by kernel_rfl
theorem C5W:AL Tryz.prog 29 2=some 2:=by kernel_rfl
theorem C6R:AL Tryz.prog 29 4=some 4:=by kernel_rfl
theorem o_4:D9 Tryz.prog 4=true:=by kernel_rfl
theorem A6m:Tryz.prog.underlying 4=some .bool:=by kernel_rfl
theorem A7E:AA Tryz.prog 37=true:=by kernel_rfl
theorem B3y:AA Tryz.prog 39=true:=by kernel_rfl
theorem C2U:DV Tryz.prog 58=some 4:=by kernel_rfl
theorem A6d:AA Tryz.prog 40=true:=by kernel_rfl
theorem C5b:BV Tryz.prog 159=some (.agg #[(.string ⟨#[]⟩),(.string ⟨#[]⟩)]):=by kernel_rfl
theorem C6t:BV Tryz.prog 52=some (.agg #[(.string ⟨#[]⟩),(.slice none 0 0),(.slice none 0 0)]):=by kernel_rfl
theorem C5r:AL Tryz.prog 52 0=some 0:=by kernel_rfl
theorem C5w:AL Tryz.prog 52 1=some 1:=by kernel_rfl
theorem C5m:D9 Tryz.prog 41=true:=by kernel_rfl
theorem C6u:AL Tryz.prog 52 2=some 2:=by kernel_rfl
theorem C6j:D9 Tryz.prog 50=true:=by kernel_rfl
theorem jA:AA Tryz.prog 241=true:=by kernel_rfl
theorem bF:AA Tryz.prog 242=true:=by kernel_rfl
theorem C7Q:L3 Tryz.prog 52=some ([(0,1),(1,1),(2,1)],[(.string ⟨#[]⟩),(.slice none 0 0),(.slice none 0 0)]):=by kernel_rfl
theorem C3p:CS Tryz.prog 52=some 3:=by kernel_rfl
theorem C6p:DV Tryz.prog 52=some 3:=by kernel_rfl
theorem B1y:AA Tryz.prog 46=true:=by kernel_rfl
theorem A3x:AA Tryz.prog 140=true:=by kernel_rfl
theorem C2I:BV Tryz.prog 54=some (.agg #[(.string ⟨#[]⟩),(.slice none 0 0),(.slice none 0 0),(.int .i64 0),(.slice none 0 0),(.int .i64 0),(.int .i64 0)]):=by kernel_rfl
theorem A0H:AA Tryz.prog 213=true:=by kernel_rfl
theorem C1m:CS Tryz.prog 54=some 7:=by kernel_rfl
theorem C1g:DV Tryz.prog 54=some 7:=by kernel_rfl
theorem A4y:AA Tryz.prog 136=true:=by kernel_rfl
theorem B2k:AA Tryz.prog 214=true:=by kernel_rfl
theorem B2j:AA Tryz.prog 215=true:=by kernel_rfl
theorem pT:AA Tryz.prog 216=true:=by kernel_rfl
theorem C2x:L3 Tryz.prog 54=some ([(0,3),(3,1),(4,1),(5,1),(6,1)],[(.string ⟨#[]⟩),(.slice none 0 0),(.slice none 0 0),(iv 0),(.slice none 0 0),(iv 0),(iv 0)]):=by kernel_rfl
theorem C5o:AL Tryz.prog 159 0=some 0:=by kernel_rfl
theorem C6e:AL Tryz.prog 159 1=some 1:=by kernel_rfl
theorem C6P:DV Tryz.prog 159=some 2:=by kernel_rfl
theorem aZ:AA Tryz.prog 173=true:=by kernel_rfl
theorem P4:AA Tryz.prog 174=true:=by kernel_rfl
theorem C8Y:AA Tryz.prog 324=true:=by kernel_rfl
theorem C8Z:AA Tryz.prog 320=true:=by kernel_rfl
theorem C8E:AA Tryz.prog 323=true:=by kernel_rfl
theorem C8F:AA Tryz.prog 312=true:=by kernel_rfl
theorem C8H:AA Tryz.prog 318=true:=by kernel_rfl
theorem C8a:AA Tryz.prog 319=true:=by kernel_rfl
theorem C6B:BV Tryz.prog 175=some (.agg #[(.slice none 0 0),(.slice none 0 0)]):=by kernel_rfl
theorem C5T:AL Tryz.prog 175 0=some 0:=by kernel_rfl
theorem C6C:AL Tryz.prog 175 1=some 1:=by kernel_rfl
theorem C6k:L3 Tryz.prog 175=some ([(0,1),(1,1)],[(.slice none 0 0),(.slice none 0 0)]):=by kernel_rfl
theorem C7h:CS Tryz.prog 175=some 2:=by kernel_rfl
theorem C6z:DV Tryz.prog 175=some 2:=by kernel_rfl
theorem C5Y:AT Tryz.prog 172=some (175,2,48):=by kernel_rfl
theorem C8b:AA Tryz.prog 310=true:=by kernel_rfl
theorem C8c:AA Tryz.prog 311=true:=by kernel_rfl
theorem C8d:AA Tryz.prog 299=true:=by kernel_rfl
theorem A0c:AA Tryz.prog 281=true:=by kernel_rfl
theorem C6F:AT Tryz.prog 124=some (52,3,64):=by kernel_rfl
theorem qE:AA Tryz.prog 240=true:=by kernel_rfl
theorem A0G:AA Tryz.prog 212=true:=by kernel_rfl
theorem wD:AA Tryz.prog 87=true:=by kernel_rfl
theorem C1t:AL Tryz.prog 54 0=some 0:=by kernel_rfl
theorem C1q:AL Tryz.prog 54 2=some 4:=by kernel_rfl
theorem A6f:AA Tryz.prog 41=true:=by kernel_rfl
theorem B2x:AA Tryz.prog 42=true:=by kernel_rfl
theorem C7F:DV Tryz.prog 49=some 2:=by kernel_rfl
theorem C6l:BV Tryz.prog 49=some (.agg #[(.string ⟨#[]⟩),(.slice none 0 0)]):=by kernel_rfl
theorem C8L:CS Tryz.prog 49=some 2:=by kernel_rfl
theorem A7C:AA Tryz.prog 43=true:=by kernel_rfl
theorem A7D:AA Tryz.prog 44=true:=by kernel_rfl
theorem C2V:BV Tryz.prog 58=some (.agg #[(.int .i64 0),(.string ⟨#[]⟩),(.string ⟨#[]⟩),(.slice none 0 0)]):=by kernel_rfl
theorem C3h:CS Tryz.prog 58=some 4:=by kernel_rfl
theorem A4E:AA Tryz.prog 45=true:=by kernel_rfl
theorem A0M:AA Tryz.prog 137=true:=by kernel_rfl
theorem A4z:AA Tryz.prog 138=true:=by kernel_rfl
theorem A6h:AA Tryz.prog 21=true:=by kernel_rfl
theorem A4h:AA Tryz.prog 243=true:=by kernel_rfl
theorem C1c:AL Tryz.prog 54 1=some 3:=by kernel_rfl
theorem C1i:AL Tryz.prog 54 3=some 5:=by kernel_rfl
theorem C2O:AL Tryz.prog 54 4=some 6:=by kernel_rfl
theorem A4i:AA Tryz.prog 245=true:=by kernel_rfl
theorem A0b:AA Tryz.prog 244=true:=by kernel_rfl
theorem A3u:AA Tryz.prog 246=true:=by kernel_rfl
theorem A6R:AA Tryz.prog 98=true:=by kernel_rfl
theorem C5c:AT Tryz.prog 44=some (54,7,112):=by kernel_rfl
theorem A0C:AA Tryz.prog 217=true:=by kernel_rfl
theorem A0B:AA Tryz.prog 218=true:=by kernel_rfl
theorem A4o:AA Tryz.prog 168=true:=by kernel_rfl
theorem A4p:AA Tryz.prog 169=true:=by kernel_rfl
theorem C8h:AA Tryz.prog 170=true:=by kernel_rfl
theorem B1x:AA Tryz.prog 100=true:=by kernel_rfl
theorem pC:AA Tryz.prog 135=true:=by kernel_rfl
theorem L6:AA Tryz.prog 72=true:=by kernel_rfl
theorem B2l:L3 Tryz.prog 80=some ([(0,2),(2,1)],[(.string ⟨#[]⟩),(.slice none 0 0),(iv 0)]):=by kernel_rfl
theorem B8O:CS Tryz.prog 25=some 1:=by kernel_rfl
theorem A6l:AA Tryz.prog 52=true:=by kernel_rfl
theorem C7S:L3 Tryz.prog 49=some ([(0,1),(1,1)],[(.string ⟨#[]⟩),(.slice none 0 0)]):=by kernel_rfl
theorem C7u:CS Tryz.prog 26=some 1:=by kernel_rfl
theorem A6o:AA Tryz.prog 73=true:=by kernel_rfl
theorem B4v:CS Tryz.prog 27=some 1:=by kernel_rfl
theorem C3d:L3 Tryz.prog 58=some ([(0,1),(1,1),(2,2)],[(iv 0),(.string ⟨#[]⟩),(.string ⟨#[]⟩),(.slice none 0 0)]):=by kernel_rfl
theorem A6r:AA Tryz.prog 53=true:=by kernel_rfl
theorem A5A:AA Tryz.prog 139=true:=by kernel_rfl
theorem zW:AA Tryz.prog 141=true:=by kernel_rfl
theorem A3S:AA Tryz.prog 142=true:=by kernel_rfl
theorem z_4:CS Tryz.prog 4=some 1:=by kernel_rfl
theorem B3v:AA Tryz.prog 58=true:=by kernel_rfl
theorem A6T:AA Tryz.prog 99=true:=by kernel_rfl
theorem iY:AA Tryz.prog 101=true:=by kernel_rfl
theorem A5C:AA Tryz.prog 33=true:=by kernel_rfl
theorem B4C:AA Tryz.prog 11=true:=by kernel_rfl
theorem A6Z:AA Tryz.prog 35=true:=by kernel_rfl
theorem B2y:AA Tryz.prog 36=true:=by kernel_rfl
theorem B3x:AA Tryz.prog 47=true:=by kernel_rfl
theorem A6P:AA Tryz.prog 70=true:=by kernel_rfl
theorem B3X:AA Tryz.prog 102=true:=by kernel_rfl
theorem A6V:AA Tryz.prog 65=true:=by kernel_rfl
theorem A6N:AA Tryz.prog 59=true:=by kernel_rfl
theorem A0X:AA Tryz.prog 103=true:=by kernel_rfl
theorem A0Y:AA Tryz.prog 104=true:=by kernel_rfl
theorem A6U:AA Tryz.prog 60=true:=by kernel_rfl
theorem B3e:AA Tryz.prog 62=true:=by kernel_rfl
theorem B3b:AA Tryz.prog 50=true:=by kernel_rfl
theorem A7O:AA Tryz.prog 32=true:=by kernel_rfl
theorem A1Y:AA Tryz.prog 31=true:=by kernel_rfl
theorem b_7:AA Tryz.prog 7=true:=by kernel_rfl
theorem b_8:AA Tryz.prog 8=true:=by kernel_rfl
theorem b_9:AA Tryz.prog 9=true:=by kernel_rfl
theorem wG:AA Tryz.prog 10=true:=by kernel_rfl
theorem A7M:AA Tryz.prog 12=true:=by kernel_rfl
theorem A7N:AA Tryz.prog 13=true:=by kernel_rfl
theorem B3h:AA Tryz.prog 14=true:=by kernel_rfl
end Go.Sy
