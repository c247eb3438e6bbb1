/- The types of the program, as the abstract layer reads them. No condition. -/
import Derived.Test.YtindpcpdkikdmaaGreatDoorAbsa
import Derived.Test.YtindpcpdkikdmaaGreatDoorProg
set_option linter.all false
namespace Go.Proofs.YtindpcpdkikdmaaGreatDoor
open Go.Proofs.YtindpcpdkikdmaaGreatDoor.Abs
theorem ty1:tyOf Tryz.prog 1=some ⟨.func,1,8,.nilfn⟩:=by kernel_rfl
theorem ty2:tyOf Tryz.prog 2=some ⟨.int .i64,1,8,.int .i64 0⟩:=by kernel_rfl
theorem ty3:tyOf Tryz.prog 3=some ⟨.int .i64,1,8,.int .i64 0⟩:=by kernel_rfl
theorem ty4:tyOf Tryz.prog 4=some ⟨.bool,1,1,.bool false⟩:=by kernel_rfl
theorem ty5:tyOf Tryz.prog 5=some ⟨.int .u8,1,1,.int .u8 0⟩:=by kernel_rfl
theorem ty6:tyOf Tryz.prog 6=some ⟨.int .u8,1,1,.int .u8 0⟩:=by kernel_rfl
theorem ty7:tyOf Tryz.prog 7=some ⟨.struct [(0,2),(1,3),(2,4),(3,6)],4,24,.agg [.int .i64 0,.int .i64 0,.bool false,.int .u8 0]⟩:=by kernel_rfl
theorem ty8:tyOf Tryz.prog 8=some ⟨.struct [(0,2),(1,3),(2,4),(3,6)],4,24,.agg [.int .i64 0,.int .i64 0,.bool false,.int .u8 0]⟩:=by kernel_rfl
theorem ty9:tyOf Tryz.prog 9=some ⟨.str,1,16,.str []⟩:=by kernel_rfl
theorem ty10:tyOf Tryz.prog 10=some ⟨.str,1,16,.str []⟩:=by kernel_rfl
theorem ty11:tyOf Tryz.prog 11=some ⟨.str,1,16,.str []⟩:=by kernel_rfl
theorem ty12:tyOf Tryz.prog 12=some ⟨.int .u64,1,8,.int .u64 0⟩:=by kernel_rfl
theorem ty13:tyOf Tryz.prog 13=some ⟨.struct [(0,9),(1,12)],2,24,.agg [.str [],.int .u64 0]⟩:=by kernel_rfl
theorem ty14:tyOf Tryz.prog 14=some ⟨.struct [(0,9),(1,12)],2,24,.agg [.str [],.int .u64 0]⟩:=by kernel_rfl
theorem ty15:tyOf Tryz.prog 15=some ⟨.ptr,1,8,.nilp⟩:=by kernel_rfl
theorem ty16:tyOf Tryz.prog 16=some ⟨.ptr,1,8,.nilp⟩:=by kernel_rfl
theorem ty17:tyOf Tryz.prog 17=some ⟨.ptr,1,8,.nilp⟩:=by kernel_rfl
theorem ty18:tyOf Tryz.prog 18=some ⟨.struct [(0,17)],1,8,.agg [.nilp]⟩:=by kernel_rfl
theorem ty19:tyOf Tryz.prog 19=some ⟨.struct [(0,17)],1,8,.agg [.nilp]⟩:=by kernel_rfl
theorem ty20:tyOf Tryz.prog 20=some ⟨.iface,1,16,.nili⟩:=by kernel_rfl
theorem ty21:tyOf Tryz.prog 21=some ⟨.int .i32,1,4,.int .i32 0⟩:=by kernel_rfl
theorem ty22:tyOf Tryz.prog 22=some ⟨.slice 3,1,24,.full []⟩:=by kernel_rfl
theorem ty23:tyOf Tryz.prog 23=some ⟨.slice 46,1,24,.full []⟩:=by kernel_rfl
theorem ty24:tyOf Tryz.prog 24=some ⟨.slice 41,1,24,.full []⟩:=by kernel_rfl
theorem ty25:tyOf Tryz.prog 25=some ⟨.struct [(0,23),(1,24)],2,48,.agg [.full [],.full []]⟩:=by kernel_rfl
theorem ty26:tyOf Tryz.prog 26=some ⟨.struct [(0,23),(1,24)],2,48,.agg [.full [],.full []]⟩:=by kernel_rfl
theorem ty27:tyOf Tryz.prog 27=some ⟨.func,1,8,.nilfn⟩:=by kernel_rfl
theorem ty28:tyOf Tryz.prog 28=some ⟨.func,1,8,.nilfn⟩:=by kernel_rfl
theorem ty29:tyOf Tryz.prog 29=some ⟨.slice 26,1,24,.full []⟩:=by kernel_rfl
theorem ty30:tyOf Tryz.prog 30=some ⟨.func,1,8,.nilfn⟩:=by kernel_rfl
theorem ty31:tyOf Tryz.prog 31=some ⟨.func,1,8,.nilfn⟩:=by kernel_rfl
theorem ty32:tyOf Tryz.prog 32=some ⟨.func,1,8,.nilfn⟩:=by kernel_rfl
theorem ty33:tyOf Tryz.prog 33=some ⟨.func,1,8,.nilfn⟩:=by kernel_rfl
theorem ty34:tyOf Tryz.prog 34=some ⟨.slice 9,1,24,.full []⟩:=by kernel_rfl
theorem ty35:tyOf Tryz.prog 35=some ⟨.slice 63,1,24,.full []⟩:=by kernel_rfl
theorem ty36:tyOf Tryz.prog 36=some ⟨.slice 51,1,24,.full []⟩:=by kernel_rfl
theorem ty37:tyOf Tryz.prog 37=some ⟨.slice 39,1,24,.full []⟩:=by kernel_rfl
theorem ty38:tyOf Tryz.prog 38=some ⟨.struct [(0,3),(1,9),(2,3),(3,9),(4,34),(5,34),(6,37),(7,3),(8,3)],9,136,.agg [.int .i64 0,.str [],.int .i64 0,.str [],.full [],.full [],.full [],.int .i64 0,.int .i64 0]⟩:=by kernel_rfl
theorem ty39:tyOf Tryz.prog 39=some ⟨.struct [(0,3),(1,9),(2,3),(3,9),(4,34),(5,34),(6,37),(7,3),(8,3)],9,136,.agg [.int .i64 0,.str [],.int .i64 0,.str [],.full [],.full [],.full [],.int .i64 0,.int .i64 0]⟩:=by kernel_rfl
theorem ty40:tyOf Tryz.prog 40=some ⟨.struct [(0,9),(1,35),(2,34),(3,36),(4,39)],13,224,.agg [.str [],.full [],.full [],.full [],.int .i64 0,.str [],.int .i64 0,.str [],.full [],.full [],.full [],.int .i64 0,.int .i64 0]⟩:=by kernel_rfl
theorem ty41:tyOf Tryz.prog 41=some ⟨.struct [(0,9),(1,35),(2,34),(3,36),(4,39)],13,224,.agg [.str [],.full [],.full [],.full [],.int .i64 0,.str [],.int .i64 0,.str [],.full [],.full [],.full [],.int .i64 0,.int .i64 0]⟩:=by kernel_rfl
theorem ty43:tyOf Tryz.prog 43=some ⟨.func,1,8,.nilfn⟩:=by kernel_rfl
theorem ty44:tyOf Tryz.prog 44=some ⟨.slice 60,1,24,.full []⟩:=by kernel_rfl
theorem ty45:tyOf Tryz.prog 45=some ⟨.struct [(0,9),(1,44)],2,40,.agg [.str [],.full []]⟩:=by kernel_rfl
theorem ty46:tyOf Tryz.prog 46=some ⟨.struct [(0,9),(1,44)],2,40,.agg [.str [],.full []]⟩:=by kernel_rfl
theorem ty48:tyOf Tryz.prog 48=some ⟨.func,1,8,.nilfn⟩:=by kernel_rfl
theorem ty49:tyOf Tryz.prog 49=some ⟨.func,1,8,.nilfn⟩:=by kernel_rfl
theorem ty50:tyOf Tryz.prog 50=some ⟨.struct [(0,9),(1,9)],2,32,.agg [.str [],.str []]⟩:=by kernel_rfl
theorem ty51:tyOf Tryz.prog 51=some ⟨.struct [(0,9),(1,9)],2,32,.agg [.str [],.str []]⟩:=by kernel_rfl
theorem ty52:tyOf Tryz.prog 52=some ⟨.slice 54,1,24,.full []⟩:=by kernel_rfl
theorem ty53:tyOf Tryz.prog 53=some ⟨.struct [(0,3),(1,9),(2,3),(3,34),(4,52)],5,80,.agg [.int .i64 0,.str [],.int .i64 0,.full [],.full []]⟩:=by kernel_rfl
theorem ty54:tyOf Tryz.prog 54=some ⟨.struct [(0,3),(1,9),(2,3),(3,34),(4,52)],5,80,.agg [.int .i64 0,.str [],.int .i64 0,.full [],.full []]⟩:=by kernel_rfl
theorem ty55:tyOf Tryz.prog 55=some ⟨.func,1,8,.nilfn⟩:=by kernel_rfl
theorem ty56:tyOf Tryz.prog 56=some ⟨.func,1,8,.nilfn⟩:=by kernel_rfl
theorem ty57:tyOf Tryz.prog 57=some ⟨.func,1,8,.nilfn⟩:=by kernel_rfl
theorem ty58:tyOf Tryz.prog 58=some ⟨.func,1,8,.nilfn⟩:=by kernel_rfl
theorem ty59:tyOf Tryz.prog 59=some ⟨.struct [(0,9),(1,4),(2,54)],7,104,.agg [.str [],.bool false,.int .i64 0,.str [],.int .i64 0,.full [],.full []]⟩:=by kernel_rfl
theorem ty60:tyOf Tryz.prog 60=some ⟨.struct [(0,9),(1,4),(2,54)],7,104,.agg [.str [],.bool false,.int .i64 0,.str [],.int .i64 0,.full [],.full []]⟩:=by kernel_rfl
theorem ty61:tyOf Tryz.prog 61=some ⟨.func,1,8,.nilfn⟩:=by kernel_rfl
theorem ty62:tyOf Tryz.prog 62=some ⟨.struct [(0,9),(1,54)],6,96,.agg [.str [],.int .i64 0,.str [],.int .i64 0,.full [],.full []]⟩:=by kernel_rfl
theorem ty63:tyOf Tryz.prog 63=some ⟨.struct [(0,9),(1,54)],6,96,.agg [.str [],.int .i64 0,.str [],.int .i64 0,.full [],.full []]⟩:=by kernel_rfl
theorem ty64:tyOf Tryz.prog 64=some ⟨.func,1,8,.nilfn⟩:=by kernel_rfl
theorem ty65:tyOf Tryz.prog 65=some ⟨.func,1,8,.nilfn⟩:=by kernel_rfl
theorem ty66:tyOf Tryz.prog 66=some ⟨.func,1,8,.nilfn⟩:=by kernel_rfl
theorem ty67:tyOf Tryz.prog 67=some ⟨.func,1,8,.nilfn⟩:=by kernel_rfl
theorem ty68:tyOf Tryz.prog 68=some ⟨.func,1,8,.nilfn⟩:=by kernel_rfl
theorem ty69:tyOf Tryz.prog 69=some ⟨.func,1,8,.nilfn⟩:=by kernel_rfl
theorem ty70:tyOf Tryz.prog 70=some ⟨.func,1,8,.nilfn⟩:=by kernel_rfl
theorem ty71:tyOf Tryz.prog 71=some ⟨.func,1,8,.nilfn⟩:=by kernel_rfl
theorem ty72:tyOf Tryz.prog 72=some ⟨.func,1,8,.nilfn⟩:=by kernel_rfl
theorem ty73:tyOf Tryz.prog 73=some ⟨.func,1,8,.nilfn⟩:=by kernel_rfl
theorem ty74:tyOf Tryz.prog 74=some ⟨.func,1,8,.nilfn⟩:=by kernel_rfl
theorem ty75:tyOf Tryz.prog 75=some ⟨.func,1,8,.nilfn⟩:=by kernel_rfl
theorem ty76:tyOf Tryz.prog 76=some ⟨.func,1,8,.nilfn⟩:=by kernel_rfl
theorem ty77:tyOf Tryz.prog 77=some ⟨.func,1,8,.nilfn⟩:=by kernel_rfl
theorem ty78:tyOf Tryz.prog 78=some ⟨.slice 305,1,24,.full []⟩:=by kernel_rfl
theorem ty79:tyOf Tryz.prog 79=some ⟨.slice 307,1,24,.full []⟩:=by kernel_rfl
theorem ty80:tyOf Tryz.prog 80=some ⟨.struct [(0,3),(1,9),(2,46),(4,41),(17,78),(18,4),(19,54),(24,39),(33,79),(34,3),(35,3),(36,3)],37,584,.agg [.int .i64 0,.str [],.str [],.full [],.str [],.full [],.full [],.full [],.int .i64 0,.str [],.int .i64 0,.str [],.full [],.full [],.full [],.int .i64 0,.int .i64 0,.full [],.bool false,.int .i64 0,.str [],.int .i64 0,.full [],.full [],.int .i64 0,.str [],.int .i64 0,.str [],.full [],.full [],.full [],.int .i64 0,.int .i64 0,.full [],.int .i64 0,.int .i64 0,.int .i64 0]⟩:=by kernel_rfl
theorem ty81:tyOf Tryz.prog 81=some ⟨.struct [(0,3),(1,9),(2,46),(4,41),(17,78),(18,4),(19,54),(24,39),(33,79),(34,3),(35,3),(36,3)],37,584,.agg [.int .i64 0,.str [],.str [],.full [],.str [],.full [],.full [],.full [],.int .i64 0,.str [],.int .i64 0,.str [],.full [],.full [],.full [],.int .i64 0,.int .i64 0,.full [],.bool false,.int .i64 0,.str [],.int .i64 0,.full [],.full [],.int .i64 0,.str [],.int .i64 0,.str [],.full [],.full [],.full [],.int .i64 0,.int .i64 0,.full [],.int .i64 0,.int .i64 0,.int .i64 0]⟩:=by kernel_rfl
theorem ty82:tyOf Tryz.prog 82=some ⟨.slice 81,1,24,.full []⟩:=by kernel_rfl
theorem ty83:tyOf Tryz.prog 83=some ⟨.struct [(0,9),(1,82)],2,40,.agg [.str [],.full []]⟩:=by kernel_rfl
theorem ty84:tyOf Tryz.prog 84=some ⟨.struct [(0,9),(1,82)],2,40,.agg [.str [],.full []]⟩:=by kernel_rfl
theorem ty85:tyOf Tryz.prog 85=some ⟨.slice 84,1,24,.full []⟩:=by kernel_rfl
theorem ty86:tyOf Tryz.prog 86=some ⟨.slice 90,1,24,.full []⟩:=by kernel_rfl
theorem ty88:tyOf Tryz.prog 88=some ⟨.func,1,8,.nilfn⟩:=by kernel_rfl
theorem ty89:tyOf Tryz.prog 89=some ⟨.struct [(0,9),(1,3),(2,3),(3,3),(4,34)],5,64,.agg [.str [],.int .i64 0,.int .i64 0,.int .i64 0,.full []]⟩:=by kernel_rfl
theorem ty90:tyOf Tryz.prog 90=some ⟨.struct [(0,9),(1,3),(2,3),(3,3),(4,34)],5,64,.agg [.str [],.int .i64 0,.int .i64 0,.int .i64 0,.full []]⟩:=by kernel_rfl
theorem ty91:tyOf Tryz.prog 91=some ⟨.int .i64,1,8,.int .i64 0⟩:=by kernel_rfl
theorem ty92:tyOf Tryz.prog 92=some ⟨.func,1,8,.nilfn⟩:=by kernel_rfl
theorem ty93:tyOf Tryz.prog 93=some ⟨.func,1,8,.nilfn⟩:=by kernel_rfl
theorem ty94:tyOf Tryz.prog 94=some ⟨.func,1,8,.nilfn⟩:=by kernel_rfl
theorem ty95:tyOf Tryz.prog 95=some ⟨.func,1,8,.nilfn⟩:=by kernel_rfl
theorem ty96:tyOf Tryz.prog 96=some ⟨.func,1,8,.nilfn⟩:=by kernel_rfl
theorem ty97:tyOf Tryz.prog 97=some ⟨.func,1,8,.nilfn⟩:=by kernel_rfl
theorem ty98:tyOf Tryz.prog 98=some ⟨.func,1,8,.nilfn⟩:=by kernel_rfl
theorem ty99:tyOf Tryz.prog 99=some ⟨.func,1,8,.nilfn⟩:=by kernel_rfl
theorem ty100:tyOf Tryz.prog 100=some ⟨.func,1,8,.nilfn⟩:=by kernel_rfl
theorem ty101:tyOf Tryz.prog 101=some ⟨.func,1,8,.nilfn⟩:=by kernel_rfl
theorem ty102:tyOf Tryz.prog 102=some ⟨.func,1,8,.nilfn⟩:=by kernel_rfl
theorem ty103:tyOf Tryz.prog 103=some ⟨.func,1,8,.nilfn⟩:=by kernel_rfl
theorem ty104:tyOf Tryz.prog 104=some ⟨.func,1,8,.nilfn⟩:=by kernel_rfl
theorem ty105:tyOf Tryz.prog 105=some ⟨.map 3 4,1,8,.nilm⟩:=by kernel_rfl
theorem ty106:tyOf Tryz.prog 106=some ⟨.map 3 34,1,8,.nilm⟩:=by kernel_rfl
theorem ty107:tyOf Tryz.prog 107=some ⟨.func,1,8,.nilfn⟩:=by kernel_rfl
theorem ty109:tyOf Tryz.prog 109=some ⟨.func,1,8,.nilfn⟩:=by kernel_rfl
theorem ty110:tyOf Tryz.prog 110=some ⟨.func,1,8,.nilfn⟩:=by kernel_rfl
theorem ty111:tyOf Tryz.prog 111=some ⟨.func,1,8,.nilfn⟩:=by kernel_rfl
theorem ty112:tyOf Tryz.prog 112=some ⟨.func,1,8,.nilfn⟩:=by kernel_rfl
theorem ty113:tyOf Tryz.prog 113=some ⟨.func,1,8,.nilfn⟩:=by kernel_rfl
theorem ty114:tyOf Tryz.prog 114=some ⟨.func,1,8,.nilfn⟩:=by kernel_rfl
theorem ty115:tyOf Tryz.prog 115=some ⟨.ptr,1,8,.nilp⟩:=by kernel_rfl
theorem ty116:tyOf Tryz.prog 116=some ⟨.func,1,8,.nilfn⟩:=by kernel_rfl
theorem ty117:tyOf Tryz.prog 117=some ⟨.map 9 41,1,8,.nilm⟩:=by kernel_rfl
theorem ty118:tyOf Tryz.prog 118=some ⟨.map 9 4,1,8,.nilm⟩:=by kernel_rfl
theorem ty119:tyOf Tryz.prog 119=some ⟨.struct [(0,23),(1,117),(2,118),(3,86)],4,64,.agg [.full [],.nilm,.nilm,.full []]⟩:=by kernel_rfl
theorem ty120:tyOf Tryz.prog 120=some ⟨.struct [(0,23),(1,117),(2,118),(3,86)],4,64,.agg [.full [],.nilm,.nilm,.full []]⟩:=by kernel_rfl
theorem ty121:tyOf Tryz.prog 121=some ⟨.func,1,8,.nilfn⟩:=by kernel_rfl
theorem ty122:tyOf Tryz.prog 122=some ⟨.func,1,8,.nilfn⟩:=by kernel_rfl
theorem ty123:tyOf Tryz.prog 123=some ⟨.func,1,8,.nilfn⟩:=by kernel_rfl
theorem ty124:tyOf Tryz.prog 124=some ⟨.func,1,8,.nilfn⟩:=by kernel_rfl
theorem ty125:tyOf Tryz.prog 125=some ⟨.func,1,8,.nilfn⟩:=by kernel_rfl
theorem ty126:tyOf Tryz.prog 126=some ⟨.func,1,8,.nilfn⟩:=by kernel_rfl
theorem ty127:tyOf Tryz.prog 127=some ⟨.func,1,8,.nilfn⟩:=by kernel_rfl
theorem ty128:tyOf Tryz.prog 128=some ⟨.func,1,8,.nilfn⟩:=by kernel_rfl
theorem ty129:tyOf Tryz.prog 129=some ⟨.func,1,8,.nilfn⟩:=by kernel_rfl
theorem ty130:tyOf Tryz.prog 130=some ⟨.func,1,8,.nilfn⟩:=by kernel_rfl
theorem ty131:tyOf Tryz.prog 131=some ⟨.func,1,8,.nilfn⟩:=by kernel_rfl
theorem ty132:tyOf Tryz.prog 132=some ⟨.func,1,8,.nilfn⟩:=by kernel_rfl
theorem ty133:tyOf Tryz.prog 133=some ⟨.func,1,8,.nilfn⟩:=by kernel_rfl
theorem ty134:tyOf Tryz.prog 134=some ⟨.func,1,8,.nilfn⟩:=by kernel_rfl
theorem ty135:tyOf Tryz.prog 135=some ⟨.func,1,8,.nilfn⟩:=by kernel_rfl
theorem ty136:tyOf Tryz.prog 136=some ⟨.struct [(0,3),(1,9),(2,3)],3,32,.agg [.int .i64 0,.str [],.int .i64 0]⟩:=by kernel_rfl
theorem ty137:tyOf Tryz.prog 137=some ⟨.struct [(0,3),(1,9),(2,3)],3,32,.agg [.int .i64 0,.str [],.int .i64 0]⟩:=by kernel_rfl
theorem ty138:tyOf Tryz.prog 138=some ⟨.func,1,8,.nilfn⟩:=by kernel_rfl
theorem ty139:tyOf Tryz.prog 139=some ⟨.func,1,8,.nilfn⟩:=by kernel_rfl
theorem ty140:tyOf Tryz.prog 140=some ⟨.func,1,8,.nilfn⟩:=by kernel_rfl
theorem ty141:tyOf Tryz.prog 141=some ⟨.func,1,8,.nilfn⟩:=by kernel_rfl
theorem ty142:tyOf Tryz.prog 142=some ⟨.func,1,8,.nilfn⟩:=by kernel_rfl
theorem ty143:tyOf Tryz.prog 143=some ⟨.func,1,8,.nilfn⟩:=by kernel_rfl
theorem ty144:tyOf Tryz.prog 144=some ⟨.func,1,8,.nilfn⟩:=by kernel_rfl
theorem ty145:tyOf Tryz.prog 145=some ⟨.func,1,8,.nilfn⟩:=by kernel_rfl
theorem ty146:tyOf Tryz.prog 146=some ⟨.func,1,8,.nilfn⟩:=by kernel_rfl
theorem ty147:tyOf Tryz.prog 147=some ⟨.func,1,8,.nilfn⟩:=by kernel_rfl
theorem ty148:tyOf Tryz.prog 148=some ⟨.func,1,8,.nilfn⟩:=by kernel_rfl
theorem ty149:tyOf Tryz.prog 149=some ⟨.int .u64,1,8,.int .u64 0⟩:=by kernel_rfl
theorem ty150:tyOf Tryz.prog 150=some ⟨.func,1,8,.nilfn⟩:=by kernel_rfl
theorem ty151:tyOf Tryz.prog 151=some ⟨.func,1,8,.nilfn⟩:=by kernel_rfl
theorem ty152:tyOf Tryz.prog 152=some ⟨.func,1,8,.nilfn⟩:=by kernel_rfl
theorem ty153:tyOf Tryz.prog 153=some ⟨.func,1,8,.nilfn⟩:=by kernel_rfl
theorem ty154:tyOf Tryz.prog 154=some ⟨.func,1,8,.nilfn⟩:=by kernel_rfl
theorem ty155:tyOf Tryz.prog 155=some ⟨.func,1,8,.nilfn⟩:=by kernel_rfl
theorem ty156:tyOf Tryz.prog 156=some ⟨.func,1,8,.nilfn⟩:=by kernel_rfl
theorem ty157:tyOf Tryz.prog 157=some ⟨.func,1,8,.nilfn⟩:=by kernel_rfl
theorem ty158:tyOf Tryz.prog 158=some ⟨.func,1,8,.nilfn⟩:=by kernel_rfl
theorem ty159:tyOf Tryz.prog 159=some ⟨.func,1,8,.nilfn⟩:=by kernel_rfl
theorem ty160:tyOf Tryz.prog 160=some ⟨.func,1,8,.nilfn⟩:=by kernel_rfl
theorem ty161:tyOf Tryz.prog 161=some ⟨.func,1,8,.nilfn⟩:=by kernel_rfl
theorem ty162:tyOf Tryz.prog 162=some ⟨.func,1,8,.nilfn⟩:=by kernel_rfl
theorem ty163:tyOf Tryz.prog 163=some ⟨.func,1,8,.nilfn⟩:=by kernel_rfl
theorem ty164:tyOf Tryz.prog 164=some ⟨.func,1,8,.nilfn⟩:=by kernel_rfl
theorem ty166:tyOf Tryz.prog 166=some ⟨.func,1,8,.nilfn⟩:=by kernel_rfl
theorem ty167:tyOf Tryz.prog 167=some ⟨.func,1,8,.nilfn⟩:=by kernel_rfl
theorem ty168:tyOf Tryz.prog 168=some ⟨.func,1,8,.nilfn⟩:=by kernel_rfl
theorem ty169:tyOf Tryz.prog 169=some ⟨.func,1,8,.nilfn⟩:=by kernel_rfl
theorem ty170:tyOf Tryz.prog 170=some ⟨.func,1,8,.nilfn⟩:=by kernel_rfl
theorem ty171:tyOf Tryz.prog 171=some ⟨.func,1,8,.nilfn⟩:=by kernel_rfl
theorem ty173:tyOf Tryz.prog 173=some ⟨.func,1,8,.nilfn⟩:=by kernel_rfl
theorem ty174:tyOf Tryz.prog 174=some ⟨.iface,1,16,.nili⟩:=by kernel_rfl
theorem ty175:tyOf Tryz.prog 175=some ⟨.iface,1,16,.nili⟩:=by kernel_rfl
theorem ty177:tyOf Tryz.prog 177=some ⟨.func,1,8,.nilfn⟩:=by kernel_rfl
theorem ty178:tyOf Tryz.prog 178=some ⟨.func,1,8,.nilfn⟩:=by kernel_rfl
theorem ty179:tyOf Tryz.prog 179=some ⟨.func,1,8,.nilfn⟩:=by kernel_rfl
theorem ty180:tyOf Tryz.prog 180=some ⟨.func,1,8,.nilfn⟩:=by kernel_rfl
theorem ty181:tyOf Tryz.prog 181=some ⟨.func,1,8,.nilfn⟩:=by kernel_rfl
theorem ty182:tyOf Tryz.prog 182=some ⟨.func,1,8,.nilfn⟩:=by kernel_rfl
theorem ty183:tyOf Tryz.prog 183=some ⟨.int .i64,1,8,.int .i64 0⟩:=by kernel_rfl
theorem ty185:tyOf Tryz.prog 185=some ⟨.func,1,8,.nilfn⟩:=by kernel_rfl
theorem ty186:tyOf Tryz.prog 186=some ⟨.func,1,8,.nilfn⟩:=by kernel_rfl
theorem ty187:tyOf Tryz.prog 187=some ⟨.func,1,8,.nilfn⟩:=by kernel_rfl
theorem ty188:tyOf Tryz.prog 188=some ⟨.func,1,8,.nilfn⟩:=by kernel_rfl
theorem ty189:tyOf Tryz.prog 189=some ⟨.func,1,8,.nilfn⟩:=by kernel_rfl
theorem ty190:tyOf Tryz.prog 190=some ⟨.int .u32,1,4,.int .u32 0⟩:=by kernel_rfl
theorem ty191:tyOf Tryz.prog 191=some ⟨.func,1,8,.nilfn⟩:=by kernel_rfl
theorem ty192:tyOf Tryz.prog 192=some ⟨.int .u64,1,8,.int .u64 0⟩:=by kernel_rfl
theorem ty193:tyOf Tryz.prog 193=some ⟨.func,1,8,.nilfn⟩:=by kernel_rfl
theorem ty194:tyOf Tryz.prog 194=some ⟨.func,1,8,.nilfn⟩:=by kernel_rfl
theorem ty195:tyOf Tryz.prog 195=some ⟨.func,1,8,.nilfn⟩:=by kernel_rfl
theorem ty196:tyOf Tryz.prog 196=some ⟨.func,1,8,.nilfn⟩:=by kernel_rfl
theorem ty197:tyOf Tryz.prog 197=some ⟨.func,1,8,.nilfn⟩:=by kernel_rfl
theorem ty198:tyOf Tryz.prog 198=some ⟨.func,1,8,.nilfn⟩:=by kernel_rfl
theorem ty200:tyOf Tryz.prog 200=some ⟨.func,1,8,.nilfn⟩:=by kernel_rfl
theorem ty201:tyOf Tryz.prog 201=some ⟨.func,1,8,.nilfn⟩:=by kernel_rfl
theorem ty202:tyOf Tryz.prog 202=some ⟨.func,1,8,.nilfn⟩:=by kernel_rfl
theorem ty203:tyOf Tryz.prog 203=some ⟨.func,1,8,.nilfn⟩:=by kernel_rfl
theorem ty204:tyOf Tryz.prog 204=some ⟨.func,1,8,.nilfn⟩:=by kernel_rfl
theorem ty205:tyOf Tryz.prog 205=some ⟨.func,1,8,.nilfn⟩:=by kernel_rfl
theorem ty206:tyOf Tryz.prog 206=some ⟨.func,1,8,.nilfn⟩:=by kernel_rfl
theorem ty207:tyOf Tryz.prog 207=some ⟨.func,1,8,.nilfn⟩:=by kernel_rfl
theorem ty208:tyOf Tryz.prog 208=some ⟨.func,1,8,.nilfn⟩:=by kernel_rfl
theorem ty210:tyOf Tryz.prog 210=some ⟨.func,1,8,.nilfn⟩:=by kernel_rfl
theorem ty211:tyOf Tryz.prog 211=some ⟨.func,1,8,.nilfn⟩:=by kernel_rfl
theorem ty212:tyOf Tryz.prog 212=some ⟨.int .u64,1,8,.int .u64 0⟩:=by kernel_rfl
theorem ty213:tyOf Tryz.prog 213=some ⟨.func,1,8,.nilfn⟩:=by kernel_rfl
theorem ty214:tyOf Tryz.prog 214=some ⟨.func,1,8,.nilfn⟩:=by kernel_rfl
theorem ty215:tyOf Tryz.prog 215=some ⟨.func,1,8,.nilfn⟩:=by kernel_rfl
theorem ty216:tyOf Tryz.prog 216=some ⟨.ptr,1,8,.nilp⟩:=by kernel_rfl
theorem ty217:tyOf Tryz.prog 217=some ⟨.func,1,8,.nilfn⟩:=by kernel_rfl
theorem ty218:tyOf Tryz.prog 218=some ⟨.func,1,8,.nilfn⟩:=by kernel_rfl
theorem ty219:tyOf Tryz.prog 219=some ⟨.func,1,8,.nilfn⟩:=by kernel_rfl
theorem ty220:tyOf Tryz.prog 220=some ⟨.func,1,8,.nilfn⟩:=by kernel_rfl
theorem ty221:tyOf Tryz.prog 221=some ⟨.func,1,8,.nilfn⟩:=by kernel_rfl
theorem ty222:tyOf Tryz.prog 222=some ⟨.func,1,8,.nilfn⟩:=by kernel_rfl
theorem ty223:tyOf Tryz.prog 223=some ⟨.func,1,8,.nilfn⟩:=by kernel_rfl
theorem ty224:tyOf Tryz.prog 224=some ⟨.int .i64,1,8,.int .i64 0⟩:=by kernel_rfl
theorem ty225:tyOf Tryz.prog 225=some ⟨.slice 5,1,24,.full []⟩:=by kernel_rfl
theorem ty227:tyOf Tryz.prog 227=some ⟨.func,1,8,.nilfn⟩:=by kernel_rfl
theorem ty228:tyOf Tryz.prog 228=some ⟨.ptr,1,8,.nilp⟩:=by kernel_rfl
theorem ty229:tyOf Tryz.prog 229=some ⟨.func,1,8,.nilfn⟩:=by kernel_rfl
theorem ty230:tyOf Tryz.prog 230=some ⟨.func,1,8,.nilfn⟩:=by kernel_rfl
theorem ty231:tyOf Tryz.prog 231=some ⟨.func,1,8,.nilfn⟩:=by kernel_rfl
theorem ty233:tyOf Tryz.prog 233=some ⟨.struct [(0,5),(1,5)],2,2,.agg [.int .u8 0,.int .u8 0]⟩:=by kernel_rfl
theorem ty234:tyOf Tryz.prog 234=some ⟨.struct [(0,5),(1,5)],2,2,.agg [.int .u8 0,.int .u8 0]⟩:=by kernel_rfl
theorem ty235:tyOf Tryz.prog 235=some ⟨.array 16 234,32,32,.agg [.int .u8 0,.int .u8 0,.int .u8 0,.int .u8 0,.int .u8 0,.int .u8 0,.int .u8 0,.int .u8 0,.int .u8 0,.int .u8 0,.int .u8 0,.int .u8 0,.int .u8 0,.int .u8 0,.int .u8 0,.int .u8 0,.int .u8 0,.int .u8 0,.int .u8 0,.int .u8 0,.int .u8 0,.int .u8 0,.int .u8 0,.int .u8 0,.int .u8 0,.int .u8 0,.int .u8 0,.int .u8 0,.int .u8 0,.int .u8 0,.int .u8 0,.int .u8 0]⟩:=by kernel_rfl
theorem ty236:tyOf Tryz.prog 236=some ⟨.func,1,8,.nilfn⟩:=by kernel_rfl
theorem ty237:tyOf Tryz.prog 237=some ⟨.func,1,8,.nilfn⟩:=by kernel_rfl
theorem ty238:tyOf Tryz.prog 238=some ⟨.func,1,8,.nilfn⟩:=by kernel_rfl
theorem ty239:tyOf Tryz.prog 239=some ⟨.map 9 3,1,8,.nilm⟩:=by kernel_rfl
theorem ty240:tyOf Tryz.prog 240=some ⟨.func,1,8,.nilfn⟩:=by kernel_rfl
theorem ty241:tyOf Tryz.prog 241=some ⟨.ptr,1,8,.nilp⟩:=by kernel_rfl
theorem ty242:tyOf Tryz.prog 242=some ⟨.func,1,8,.nilfn⟩:=by kernel_rfl
theorem ty243:tyOf Tryz.prog 243=some ⟨.func,1,8,.nilfn⟩:=by kernel_rfl
theorem ty244:tyOf Tryz.prog 244=some ⟨.func,1,8,.nilfn⟩:=by kernel_rfl
theorem ty245:tyOf Tryz.prog 245=some ⟨.func,1,8,.nilfn⟩:=by kernel_rfl
theorem ty247:tyOf Tryz.prog 247=some ⟨.func,1,8,.nilfn⟩:=by kernel_rfl
theorem ty248:tyOf Tryz.prog 248=some ⟨.func,1,8,.nilfn⟩:=by kernel_rfl
theorem ty249:tyOf Tryz.prog 249=some ⟨.struct [(0,9),(1,9),(2,175)],3,48,.agg [.str [],.str [],.nili]⟩:=by kernel_rfl
theorem ty250:tyOf Tryz.prog 250=some ⟨.struct [(0,9),(1,9),(2,175)],3,48,.agg [.str [],.str [],.nili]⟩:=by kernel_rfl
theorem ty251:tyOf Tryz.prog 251=some ⟨.func,1,8,.nilfn⟩:=by kernel_rfl
theorem ty252:tyOf Tryz.prog 252=some ⟨.func,1,8,.nilfn⟩:=by kernel_rfl
theorem ty253:tyOf Tryz.prog 253=some ⟨.func,1,8,.nilfn⟩:=by kernel_rfl
theorem ty257:tyOf Tryz.prog 257=some ⟨.func,1,8,.nilfn⟩:=by kernel_rfl
theorem ty258:tyOf Tryz.prog 258=some ⟨.func,1,8,.nilfn⟩:=by kernel_rfl
theorem ty259:tyOf Tryz.prog 259=some ⟨.func,1,8,.nilfn⟩:=by kernel_rfl
theorem ty260:tyOf Tryz.prog 260=some ⟨.func,1,8,.nilfn⟩:=by kernel_rfl
theorem ty261:tyOf Tryz.prog 261=some ⟨.func,1,8,.nilfn⟩:=by kernel_rfl
theorem ty262:tyOf Tryz.prog 262=some ⟨.func,1,8,.nilfn⟩:=by kernel_rfl
theorem ty263:tyOf Tryz.prog 263=some ⟨.func,1,8,.nilfn⟩:=by kernel_rfl
theorem ty264:tyOf Tryz.prog 264=some ⟨.func,1,8,.nilfn⟩:=by kernel_rfl
theorem ty265:tyOf Tryz.prog 265=some ⟨.func,1,8,.nilfn⟩:=by kernel_rfl
theorem ty266:tyOf Tryz.prog 266=some ⟨.array 26 9,26,416,.agg [.str [],.str [],.str [],.str [],.str [],.str [],.str [],.str [],.str [],.str [],.str [],.str [],.str [],.str [],.str [],.str [],.str [],.str [],.str [],.str [],.str [],.str [],.str [],.str [],.str [],.str []]⟩:=by kernel_rfl
theorem ty267:tyOf Tryz.prog 267=some ⟨.array 24 9,24,384,.agg [.str [],.str [],.str [],.str [],.str [],.str [],.str [],.str [],.str [],.str [],.str [],.str [],.str [],.str [],.str [],.str [],.str [],.str [],.str [],.str [],.str [],.str [],.str [],.str []]⟩:=by kernel_rfl
theorem ty268:tyOf Tryz.prog 268=some ⟨.func,1,8,.nilfn⟩:=by kernel_rfl
theorem ty269:tyOf Tryz.prog 269=some ⟨.ptr,1,8,.nilp⟩:=by kernel_rfl
theorem ty270:tyOf Tryz.prog 270=some ⟨.ptr,1,8,.nilp⟩:=by kernel_rfl
theorem ty271:tyOf Tryz.prog 271=some ⟨.struct [(0,9)],1,16,.agg [.str []]⟩:=by kernel_rfl
theorem ty272:tyOf Tryz.prog 272=some ⟨.struct [(0,9)],1,16,.agg [.str []]⟩:=by kernel_rfl
theorem ty273:tyOf Tryz.prog 273=some ⟨.func,1,8,.nilfn⟩:=by kernel_rfl
theorem ty274:tyOf Tryz.prog 274=some ⟨.func,1,8,.nilfn⟩:=by kernel_rfl
theorem ty275:tyOf Tryz.prog 275=some ⟨.func,1,8,.nilfn⟩:=by kernel_rfl
theorem ty276:tyOf Tryz.prog 276=some ⟨.ptr,1,8,.nilp⟩:=by kernel_rfl
theorem ty277:tyOf Tryz.prog 277=some ⟨.func,1,8,.nilfn⟩:=by kernel_rfl
theorem ty278:tyOf Tryz.prog 278=some ⟨.func,1,8,.nilfn⟩:=by kernel_rfl
theorem ty279:tyOf Tryz.prog 279=some ⟨.func,1,8,.nilfn⟩:=by kernel_rfl
theorem ty280:tyOf Tryz.prog 280=some ⟨.func,1,8,.nilfn⟩:=by kernel_rfl
theorem ty281:tyOf Tryz.prog 281=some ⟨.array 24 5,24,24,.agg [.int .u8 0,.int .u8 0,.int .u8 0,.int .u8 0,.int .u8 0,.int .u8 0,.int .u8 0,.int .u8 0,.int .u8 0,.int .u8 0,.int .u8 0,.int .u8 0,.int .u8 0,.int .u8 0,.int .u8 0,.int .u8 0,.int .u8 0,.int .u8 0,.int .u8 0,.int .u8 0,.int .u8 0,.int .u8 0,.int .u8 0,.int .u8 0]⟩:=by kernel_rfl
theorem ty282:tyOf Tryz.prog 282=some ⟨.func,1,8,.nilfn⟩:=by kernel_rfl
theorem ty284:tyOf Tryz.prog 284=some ⟨.func,1,8,.nilfn⟩:=by kernel_rfl
theorem ty285:tyOf Tryz.prog 285=some ⟨.func,1,8,.nilfn⟩:=by kernel_rfl
theorem ty286:tyOf Tryz.prog 286=some ⟨.array 20 192,20,160,.agg [.int .u64 0,.int .u64 0,.int .u64 0,.int .u64 0,.int .u64 0,.int .u64 0,.int .u64 0,.int .u64 0,.int .u64 0,.int .u64 0,.int .u64 0,.int .u64 0,.int .u64 0,.int .u64 0,.int .u64 0,.int .u64 0,.int .u64 0,.int .u64 0,.int .u64 0,.int .u64 0]⟩:=by kernel_rfl
theorem ty287:tyOf Tryz.prog 287=some ⟨.array 65 5,65,65,.agg [.int .u8 0,.int .u8 0,.int .u8 0,.int .u8 0,.int .u8 0,.int .u8 0,.int .u8 0,.int .u8 0,.int .u8 0,.int .u8 0,.int .u8 0,.int .u8 0,.int .u8 0,.int .u8 0,.int .u8 0,.int .u8 0,.int .u8 0,.int .u8 0,.int .u8 0,.int .u8 0,.int .u8 0,.int .u8 0,.int .u8 0,.int .u8 0,.int .u8 0,.int .u8 0,.int .u8 0,.int .u8 0,.int .u8 0,.int .u8 0,.int .u8 0,.int .u8 0,.int .u8 0,.int .u8 0,.int .u8 0,.int .u8 0,.int .u8 0,.int .u8 0,.int .u8 0,.int .u8 0,.int .u8 0,.int .u8 0,.int .u8 0,.int .u8 0,.int .u8 0,.int .u8 0,.int .u8 0,.int .u8 0,.int .u8 0,.int .u8 0,.int .u8 0,.int .u8 0,.int .u8 0,.int .u8 0,.int .u8 0,.int .u8 0,.int .u8 0,.int .u8 0,.int .u8 0,.int .u8 0,.int .u8 0,.int .u8 0,.int .u8 0,.int .u8 0,.int .u8 0]⟩:=by kernel_rfl
theorem ty288:tyOf Tryz.prog 288=some ⟨.array 32 5,32,32,.agg [.int .u8 0,.int .u8 0,.int .u8 0,.int .u8 0,.int .u8 0,.int .u8 0,.int .u8 0,.int .u8 0,.int .u8 0,.int .u8 0,.int .u8 0,.int .u8 0,.int .u8 0,.int .u8 0,.int .u8 0,.int .u8 0,.int .u8 0,.int .u8 0,.int .u8 0,.int .u8 0,.int .u8 0,.int .u8 0,.int .u8 0,.int .u8 0,.int .u8 0,.int .u8 0,.int .u8 0,.int .u8 0,.int .u8 0,.int .u8 0,.int .u8 0,.int .u8 0]⟩:=by kernel_rfl
theorem ty289:tyOf Tryz.prog 289=some ⟨.array 64 5,64,64,.agg [.int .u8 0,.int .u8 0,.int .u8 0,.int .u8 0,.int .u8 0,.int .u8 0,.int .u8 0,.int .u8 0,.int .u8 0,.int .u8 0,.int .u8 0,.int .u8 0,.int .u8 0,.int .u8 0,.int .u8 0,.int .u8 0,.int .u8 0,.int .u8 0,.int .u8 0,.int .u8 0,.int .u8 0,.int .u8 0,.int .u8 0,.int .u8 0,.int .u8 0,.int .u8 0,.int .u8 0,.int .u8 0,.int .u8 0,.int .u8 0,.int .u8 0,.int .u8 0,.int .u8 0,.int .u8 0,.int .u8 0,.int .u8 0,.int .u8 0,.int .u8 0,.int .u8 0,.int .u8 0,.int .u8 0,.int .u8 0,.int .u8 0,.int .u8 0,.int .u8 0,.int .u8 0,.int .u8 0,.int .u8 0,.int .u8 0,.int .u8 0,.int .u8 0,.int .u8 0,.int .u8 0,.int .u8 0,.int .u8 0,.int .u8 0,.int .u8 0,.int .u8 0,.int .u8 0,.int .u8 0,.int .u8 0,.int .u8 0,.int .u8 0,.int .u8 0]⟩:=by kernel_rfl
theorem ty290:tyOf Tryz.prog 290=some ⟨.func,1,8,.nilfn⟩:=by kernel_rfl
theorem ty291:tyOf Tryz.prog 291=some ⟨.struct [(0,17),(1,17),(2,17),(3,9)],4,40,.agg [.nilp,.nilp,.nilp,.str []]⟩:=by kernel_rfl
theorem ty292:tyOf Tryz.prog 292=some ⟨.struct [(0,17),(1,17),(2,17),(3,9)],4,40,.agg [.nilp,.nilp,.nilp,.str []]⟩:=by kernel_rfl
theorem ty293:tyOf Tryz.prog 293=some ⟨.array 0 16,0,0,.agg []⟩:=by kernel_rfl
theorem ty294:tyOf Tryz.prog 294=some ⟨.struct [(0,293)],0,0,.agg []⟩:=by kernel_rfl
theorem ty295:tyOf Tryz.prog 295=some ⟨.struct [(0,293)],0,0,.agg []⟩:=by kernel_rfl
theorem ty296:tyOf Tryz.prog 296=some ⟨.func,1,8,.nilfn⟩:=by kernel_rfl
theorem ty297:tyOf Tryz.prog 297=some ⟨.int .u8,1,1,.int .u8 0⟩:=by kernel_rfl
theorem ty298:tyOf Tryz.prog 298=some ⟨.int .u8,1,1,.int .u8 0⟩:=by kernel_rfl
theorem ty299:tyOf Tryz.prog 299=some ⟨.func,1,8,.nilfn⟩:=by kernel_rfl
theorem ty300:tyOf Tryz.prog 300=some ⟨.int .i32,1,4,.int .i32 0⟩:=by kernel_rfl
theorem ty301:tyOf Tryz.prog 301=some ⟨.int .i32,1,4,.int .i32 0⟩:=by kernel_rfl
theorem ty302:tyOf Tryz.prog 302=some ⟨.struct [(0,12),(1,12),(2,190),(3,297),(4,5),(5,5),(6,298),(7,299),(8,269),(9,300),(10,301)],11,48,.agg [.int .u64 0,.int .u64 0,.int .u32 0,.int .u8 0,.int .u8 0,.int .u8 0,.int .u8 0,.nilfn,.nilp,.int .i32 0,.int .i32 0]⟩:=by kernel_rfl
theorem ty303:tyOf Tryz.prog 303=some ⟨.struct [(0,12),(1,12),(2,190),(3,297),(4,5),(5,5),(6,298),(7,299),(8,269),(9,300),(10,301)],11,48,.agg [.int .u64 0,.int .u64 0,.int .u32 0,.int .u8 0,.int .u8 0,.int .u8 0,.int .u8 0,.nilfn,.nilp,.int .i32 0,.int .i32 0]⟩:=by kernel_rfl
theorem ty304:tyOf Tryz.prog 304=some ⟨.struct [(0,9),(1,4),(2,54),(7,4),(8,39),(17,3),(18,3)],19,264,.agg [.str [],.bool false,.int .i64 0,.str [],.int .i64 0,.full [],.full [],.bool false,.int .i64 0,.str [],.int .i64 0,.str [],.full [],.full [],.full [],.int .i64 0,.int .i64 0,.int .i64 0,.int .i64 0]⟩:=by kernel_rfl
theorem ty305:tyOf Tryz.prog 305=some ⟨.struct [(0,9),(1,4),(2,54),(7,4),(8,39),(17,3),(18,3)],19,264,.agg [.str [],.bool false,.int .i64 0,.str [],.int .i64 0,.full [],.full [],.bool false,.int .i64 0,.str [],.int .i64 0,.str [],.full [],.full [],.full [],.int .i64 0,.int .i64 0,.int .i64 0,.int .i64 0]⟩:=by kernel_rfl
theorem ty306:tyOf Tryz.prog 306=some ⟨.struct [(0,3),(1,9),(2,9),(3,39),(12,39),(21,3),(22,3)],23,328,.agg [.int .i64 0,.str [],.str [],.int .i64 0,.str [],.int .i64 0,.str [],.full [],.full [],.full [],.int .i64 0,.int .i64 0,.int .i64 0,.str [],.int .i64 0,.str [],.full [],.full [],.full [],.int .i64 0,.int .i64 0,.int .i64 0,.int .i64 0]⟩:=by kernel_rfl
theorem ty307:tyOf Tryz.prog 307=some ⟨.struct [(0,3),(1,9),(2,9),(3,39),(12,39),(21,3),(22,3)],23,328,.agg [.int .i64 0,.str [],.str [],.int .i64 0,.str [],.int .i64 0,.str [],.full [],.full [],.full [],.int .i64 0,.int .i64 0,.int .i64 0,.str [],.int .i64 0,.str [],.full [],.full [],.full [],.int .i64 0,.int .i64 0,.int .i64 0,.int .i64 0]⟩:=by kernel_rfl
theorem ty308:tyOf Tryz.prog 308=some ⟨.other,1,8,.nilp⟩:=by kernel_rfl
end Go.Proofs.YtindpcpdkikdmaaGreatDoor
