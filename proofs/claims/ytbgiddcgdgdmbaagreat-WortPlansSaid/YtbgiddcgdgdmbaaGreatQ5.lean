/- Lemmas for the proof: an abstract machine over the program's form in Lean, and the program's functions walked on it. -/
import Derived.Test.YtbgiddcgdgdmbaaGreatQ4
import Derived.Test.YtbgiddcgdgdmbaaGreatProg
import Derived.KernelRfl
/- What the program's tables say of its types, read off once. -/
section
namespace AM.Try
open Go AM Go.Proofs
theorem ty1:Ac Tryz.prog 1=⟨.other,1,8,[.nilFunc]⟩:=by kernel_rfl
theorem ty2:Ac Tryz.prog 2=⟨.int .i64,1,8,[.int .i64 0]⟩:=by kernel_rfl
theorem ty3:Ac Tryz.prog 3=⟨.int .i64,1,8,[.int .i64 0]⟩:=by kernel_rfl
theorem ty4:Ac Tryz.prog 4=⟨.bool,1,1,[.bool false]⟩:=by kernel_rfl
theorem ty5:Ac Tryz.prog 5=⟨.int .u8,1,1,[.int .u8 0]⟩:=by kernel_rfl
theorem ty6:Ac Tryz.prog 6=⟨.int .u8,1,1,[.int .u8 0]⟩:=by kernel_rfl
theorem ty7:Ac Tryz.prog 7=⟨.struct [(0,2),(1,3),(2,4),(3,6)],4,24,[.int .i64 0,.int .i64 0,.bool false,.int .u8 0]⟩:=by kernel_rfl
theorem ty8:Ac Tryz.prog 8=⟨.struct [(0,2),(1,3),(2,4),(3,6)],4,24,[.int .i64 0,.int .i64 0,.bool false,.int .u8 0]⟩:=by kernel_rfl
theorem Bcj:Ac Tryz.prog 12=⟨.int .u64,1,8,[.int .u64 0]⟩:=by kernel_rfl
theorem Bes:Ac Tryz.prog 15=⟨.other,1,8,[.pointer none]⟩:=by kernel_rfl
theorem Bc5:Ac Tryz.prog 16=⟨.other,1,8,[.pointer none]⟩:=by kernel_rfl
theorem Bfe:Ac Tryz.prog 17=⟨.other,1,8,[.pointer none]⟩:=by kernel_rfl
theorem Bf1:Ac Tryz.prog 18=⟨.struct [(0,17)],1,8,[.pointer none]⟩:=by kernel_rfl
theorem Bf2:Ac Tryz.prog 19=⟨.struct [(0,17)],1,8,[.pointer none]⟩:=by kernel_rfl
theorem Bd9:Ac Tryz.prog 20=⟨.other,1,16,[.nilIface]⟩:=by kernel_rfl
theorem Bcw:Ac Tryz.prog 21=⟨.int .i32,1,4,[.int .i32 0]⟩:=by kernel_rfl
theorem Bfc:Ac Tryz.prog 22=⟨.sl 92,1,24,[.slice none 0 0]⟩:=by kernel_rfl
theorem Bdk:Ac Tryz.prog 23=⟨.sl 94,1,24,[.slice none 0 0]⟩:=by kernel_rfl
theorem Bdr:Ac Tryz.prog 24=⟨.struct [(0,22),(1,23)],2,48,[.slice none 0 0,.slice none 0 0]⟩:=by kernel_rfl
theorem Bdu:Ac Tryz.prog 25=⟨.struct [(0,22),(1,23)],2,48,[.slice none 0 0,.slice none 0 0]⟩:=by kernel_rfl
theorem Bcz:Ac Tryz.prog 26=⟨.sl 3,1,24,[.slice none 0 0]⟩:=by kernel_rfl
theorem Bed:Ac Tryz.prog 27=⟨.struct [(0,26),(1,26),(2,26)],3,72,[.slice none 0 0,.slice none 0 0,.slice none 0 0]⟩:=by kernel_rfl
theorem Ben:Ac Tryz.prog 28=⟨.struct [(0,26),(1,26),(2,26)],3,72,[.slice none 0 0,.slice none 0 0,.slice none 0 0]⟩:=by kernel_rfl
theorem Bfs:Ac Tryz.prog 29=⟨.other,1,8,[.nilFunc]⟩:=by kernel_rfl
theorem Beb:Ac Tryz.prog 30=⟨.other,1,8,[.nilFunc]⟩:=by kernel_rfl
theorem Bgr:Ac Tryz.prog 31=⟨.sl 90,1,24,[.slice none 0 0]⟩:=by kernel_rfl
theorem Bcr:Ac Tryz.prog 32=⟨.int .i64,1,8,[.int .i64 0]⟩:=by kernel_rfl
theorem Bds:Ac Tryz.prog 34=⟨.other,1,8,[.nilFunc]⟩:=by kernel_rfl
theorem Bex:Ac Tryz.prog 35=⟨.sl 128,1,24,[.slice none 0 0]⟩:=by kernel_rfl
theorem Bdf:Ac Tryz.prog 36=⟨.sl 135,1,24,[.slice none 0 0]⟩:=by kernel_rfl
theorem Bgj:Ac Tryz.prog 37=⟨.struct [(0,35),(1,36)],2,48,[.slice none 0 0,.slice none 0 0]⟩:=by kernel_rfl
theorem Bfr:Ac Tryz.prog 38=⟨.struct [(0,35),(1,36)],2,48,[.slice none 0 0,.slice none 0 0]⟩:=by kernel_rfl
theorem Bet:Ac Tryz.prog 39=⟨.other,1,8,[.nilFunc]⟩:=by kernel_rfl
theorem Bfm:Ac Tryz.prog 40=⟨.struct [(0,26),(1,26),(2,26)],3,72,[.slice none 0 0,.slice none 0 0,.slice none 0 0]⟩:=by kernel_rfl
theorem Beo:Ac Tryz.prog 41=⟨.other,1,8,[.nilFunc]⟩:=by kernel_rfl
theorem Bd8:Ac Tryz.prog 42=⟨.other,1,8,[.nilFunc]⟩:=by kernel_rfl
theorem Bd1:Ac Tryz.prog 43=⟨.other,1,8,[.nilFunc]⟩:=by kernel_rfl
theorem Bfa:Ac Tryz.prog 44=⟨.sl 137,1,24,[.slice none 0 0]⟩:=by kernel_rfl
theorem Bee:Ac Tryz.prog 46=⟨.other,1,8,[.nilFunc]⟩:=by kernel_rfl
theorem Bfh:Ac Tryz.prog 47=⟨.other,1,8,[.nilFunc]⟩:=by kernel_rfl
theorem Bgd:Ac Tryz.prog 48=⟨.other,1,8,[.nilFunc]⟩:=by kernel_rfl
theorem Bco:Ac Tryz.prog 49=⟨.sl 60,1,24,[.slice none 0 0]⟩:=by kernel_rfl
theorem Be6:Ac Tryz.prog 51=⟨.other,1,8,[.nilFunc]⟩:=by kernel_rfl
theorem Bfu:Ac Tryz.prog 52=⟨.sl 44,1,24,[.slice none 0 0]⟩:=by kernel_rfl
theorem Bct:Ac Tryz.prog 53=⟨.other,1,8,[.nilFunc]⟩:=by kernel_rfl
theorem Bgn:Ac Tryz.prog 54=⟨.struct [(0,3),(1,3)],2,16,[.int .i64 0,.int .i64 0]⟩:=by kernel_rfl
theorem Bek:Ac Tryz.prog 55=⟨.struct [(0,3),(1,3)],2,16,[.int .i64 0,.int .i64 0]⟩:=by kernel_rfl
theorem Bez:Ac Tryz.prog 57=⟨.other,1,8,[.nilFunc]⟩:=by kernel_rfl
theorem Bgq:Ac Tryz.prog 58=⟨.struct [(0,3),(1,3)],2,16,[.int .i64 0,.int .i64 0]⟩:=by kernel_rfl
theorem Bdj:Ac Tryz.prog 59=⟨.struct [(0,58),(2,58),(4,58)],6,48,[.int .i64 0,.int .i64 0,.int .i64 0,.int .i64 0,.int .i64 0,.int .i64 0]⟩:=by kernel_rfl
theorem Bf8:Ac Tryz.prog 60=⟨.struct [(0,58),(2,58),(4,58)],6,48,[.int .i64 0,.int .i64 0,.int .i64 0,.int .i64 0,.int .i64 0,.int .i64 0]⟩:=by kernel_rfl
theorem Bel:Ac Tryz.prog 61=⟨.other,1,8,[.nilFunc]⟩:=by kernel_rfl
theorem Bge:Ac Tryz.prog 62=⟨.other,1,8,[.nilFunc]⟩:=by kernel_rfl
theorem Bc9:Ac Tryz.prog 63=⟨.sl 70,1,24,[.slice none 0 0]⟩:=by kernel_rfl
theorem Bfg:Ac Tryz.prog 65=⟨.other,1,8,[.nilFunc]⟩:=by kernel_rfl
theorem Bc4:Ac Tryz.prog 66=⟨.sl 103,1,24,[.slice none 0 0]⟩:=by kernel_rfl
theorem Bcy:Ac Tryz.prog 67=⟨.other,1,8,[.nilFunc]⟩:=by kernel_rfl
theorem Bew:Ac Tryz.prog 68=⟨.other,1,8,[.nilFunc]⟩:=by kernel_rfl
theorem Bgh:Ac Tryz.prog 69=⟨.struct [(0,3),(1,55),(3,55)],5,40,[.int .i64 0,.int .i64 0,.int .i64 0,.int .i64 0,.int .i64 0]⟩:=by kernel_rfl
theorem Bdy:Ac Tryz.prog 70=⟨.struct [(0,3),(1,55),(3,55)],5,40,[.int .i64 0,.int .i64 0,.int .i64 0,.int .i64 0,.int .i64 0]⟩:=by kernel_rfl
theorem Be7:Ac Tryz.prog 71=⟨.other,1,8,[.nilFunc]⟩:=by kernel_rfl
theorem Bdl:Ac Tryz.prog 72=⟨.other,1,8,[.nilFunc]⟩:=by kernel_rfl
theorem Bcm:Ac Tryz.prog 73=⟨.other,1,8,[.nilFunc]⟩:=by kernel_rfl
theorem Bei:Ac Tryz.prog 75=⟨.other,1,8,[.nilFunc]⟩:=by kernel_rfl
theorem Bff:Ac Tryz.prog 76=⟨.other,1,8,[.nilFunc]⟩:=by kernel_rfl
theorem Bea:Ac Tryz.prog 77=⟨.other,1,8,[.nilFunc]⟩:=by kernel_rfl
theorem Be5:Ac Tryz.prog 78=⟨.other,1,8,[.nilFunc]⟩:=by kernel_rfl
theorem Bdb:Ac Tryz.prog 79=⟨.other,1,8,[.nilFunc]⟩:=by kernel_rfl
theorem Bcx:Ac Tryz.prog 80=⟨.other,1,8,[.nilFunc]⟩:=by kernel_rfl
theorem Bdw:Ac Tryz.prog 81=⟨.other,1,8,[.nilFunc]⟩:=by kernel_rfl
theorem Bd5:Ac Tryz.prog 82=⟨.other,1,8,[.nilFunc]⟩:=by kernel_rfl
theorem Ber:Ac Tryz.prog 83=⟨.int .u16,1,2,[.int .u16 0]⟩:=by kernel_rfl
theorem Bfy:Ac Tryz.prog 85=⟨.other,1,8,[.nilFunc]⟩:=by kernel_rfl
theorem Bch:Ac Tryz.prog 86=⟨.other,1,8,[.nilFunc]⟩:=by kernel_rfl
theorem Bce:Ac Tryz.prog 87=⟨.other,1,8,[.nilFunc]⟩:=by kernel_rfl
theorem Bem:Ac Tryz.prog 88=⟨.other,1,8,[.nilFunc]⟩:=by kernel_rfl
theorem Bfl:Ac Tryz.prog 89=⟨.struct [(0,3),(1,3),(2,3)],3,24,[.int .i64 0,.int .i64 0,.int .i64 0]⟩:=by kernel_rfl
theorem Bdq:Ac Tryz.prog 90=⟨.struct [(0,3),(1,3),(2,3)],3,24,[.int .i64 0,.int .i64 0,.int .i64 0]⟩:=by kernel_rfl
theorem Bd2:Ac Tryz.prog 91=⟨.struct [(0,55),(2,55),(4,3)],5,40,[.int .i64 0,.int .i64 0,.int .i64 0,.int .i64 0,.int .i64 0]⟩:=by kernel_rfl
theorem Bd7:Ac Tryz.prog 92=⟨.struct [(0,55),(2,55),(4,3)],5,40,[.int .i64 0,.int .i64 0,.int .i64 0,.int .i64 0,.int .i64 0]⟩:=by kernel_rfl
theorem Bcf:Ac Tryz.prog 93=⟨.struct [(0,3),(1,3),(2,3),(3,55)],5,40,[.int .i64 0,.int .i64 0,.int .i64 0,.int .i64 0,.int .i64 0]⟩:=by kernel_rfl
theorem Bfi:Ac Tryz.prog 94=⟨.struct [(0,3),(1,3),(2,3),(3,55)],5,40,[.int .i64 0,.int .i64 0,.int .i64 0,.int .i64 0,.int .i64 0]⟩:=by kernel_rfl
theorem Bdz:Ac Tryz.prog 95=⟨.other,1,8,[.nilFunc]⟩:=by kernel_rfl
theorem Bdt:Ac Tryz.prog 96=⟨.arr 6 4,6,6,[.bool false,.bool false,.bool false,.bool false,.bool false,.bool false]⟩:=by kernel_rfl
theorem Bc6:Ac Tryz.prog 97=⟨.other,1,8,[.nilFunc]⟩:=by kernel_rfl
theorem Bc7:Ac Tryz.prog 99=⟨.other,1,8,[.nilFunc]⟩:=by kernel_rfl
theorem Avy:Ac Tryz.prog 100=⟨.int .u64,1,8,[.int .u64 0]⟩:=by kernel_rfl
theorem Avk:Ac Tryz.prog 101=⟨.other,1,8,[.nilFunc]⟩:=by kernel_rfl
theorem Ayd:Ac Tryz.prog 102=⟨.struct [(0,3),(1,58),(3,58)],5,40,[.int .i64 0,.int .i64 0,.int .i64 0,.int .i64 0,.int .i64 0]⟩:=by kernel_rfl
theorem Ay9:Ac Tryz.prog 103=⟨.struct [(0,3),(1,58),(3,58)],5,40,[.int .i64 0,.int .i64 0,.int .i64 0,.int .i64 0,.int .i64 0]⟩:=by kernel_rfl
theorem Ay7:Ac Tryz.prog 104=⟨.other,1,8,[.nilFunc]⟩:=by kernel_rfl
theorem Ayp:Ac Tryz.prog 105=⟨.other,1,8,[.nilFunc]⟩:=by kernel_rfl
theorem Azb:Ac Tryz.prog 106=⟨.other,1,8,[.nilFunc]⟩:=by kernel_rfl
theorem Aw1:Ac Tryz.prog 107=⟨.other,1,8,[.nilFunc]⟩:=by kernel_rfl
theorem Awh:Ac Tryz.prog 108=⟨.other,1,8,[.nilFunc]⟩:=by kernel_rfl
theorem Av1:Ac Tryz.prog 109=⟨.other,1,8,[.nilFunc]⟩:=by kernel_rfl
theorem Azg:Ac Tryz.prog 111=⟨.other,1,8,[.nilFunc]⟩:=by kernel_rfl
theorem Axp:Ac Tryz.prog 112=⟨.other,1,8,[.nilFunc]⟩:=by kernel_rfl
theorem Awr:Ac Tryz.prog 113=⟨.sl 58,1,24,[.slice none 0 0]⟩:=by kernel_rfl
theorem Azc:Ac Tryz.prog 114=⟨.other,1,8,[.nilFunc]⟩:=by kernel_rfl
theorem Axd:Ac Tryz.prog 115=⟨.other,1,8,[.nilFunc]⟩:=by kernel_rfl
theorem Ayi:Ac Tryz.prog 116=⟨.other,1,8,[.nilFunc]⟩:=by kernel_rfl
theorem Axm:Ac Tryz.prog 117=⟨.struct [(0,3),(1,3)],2,16,[.int .i64 0,.int .i64 0]⟩:=by kernel_rfl
theorem Axb:Ac Tryz.prog 118=⟨.struct [(0,3),(1,3)],2,16,[.int .i64 0,.int .i64 0]⟩:=by kernel_rfl
theorem Azm:Ac Tryz.prog 119=⟨.arr 4 118,8,64,[.int .i64 0,.int .i64 0,.int .i64 0,.int .i64 0,.int .i64 0,.int .i64 0,.int .i64 0,.int .i64 0]⟩:=by kernel_rfl
theorem Aji:Ac Tryz.prog 120=⟨.arr 4 118,8,64,[.int .i64 0,.int .i64 0,.int .i64 0,.int .i64 0,.int .i64 0,.int .i64 0,.int .i64 0,.int .i64 0]⟩:=by kernel_rfl
theorem Awc:Ac Tryz.prog 122=⟨.other,1,8,[.pointer none]⟩:=by kernel_rfl
theorem Ax3:Ac Tryz.prog 123=⟨.other,1,8,[.nilFunc]⟩:=by kernel_rfl
theorem Ayw:Ac Tryz.prog 124=⟨.other,1,8,[.nilFunc]⟩:=by kernel_rfl
theorem Ayy:Ac Tryz.prog 125=⟨.sl 118,1,24,[.slice none 0 0]⟩:=by kernel_rfl
theorem Avn:Ac Tryz.prog 126=⟨.other,1,8,[.nilFunc]⟩:=by kernel_rfl
theorem Ay1:Ac Tryz.prog 127=⟨.struct [(0,58),(2,58),(4,3)],5,40,[.int .i64 0,.int .i64 0,.int .i64 0,.int .i64 0,.int .i64 0]⟩:=by kernel_rfl
theorem Ax8:Ac Tryz.prog 128=⟨.struct [(0,58),(2,58),(4,3)],5,40,[.int .i64 0,.int .i64 0,.int .i64 0,.int .i64 0,.int .i64 0]⟩:=by kernel_rfl
theorem Awv:Ac Tryz.prog 129=⟨.other,1,8,[.nilFunc]⟩:=by kernel_rfl
theorem Aye:Ac Tryz.prog 130=⟨.other,1,8,[.nilFunc]⟩:=by kernel_rfl
theorem Avp:Ac Tryz.prog 131=⟨.other,1,8,[.nilFunc]⟩:=by kernel_rfl
theorem Axw:Ac Tryz.prog 132=⟨.other,1,8,[.nilFunc]⟩:=by kernel_rfl
theorem Av5:Ac Tryz.prog 133=⟨.other,1,8,[.nilFunc]⟩:=by kernel_rfl
theorem Ayr:Ac Tryz.prog 134=⟨.struct [(0,3),(1,3),(2,3),(3,58)],5,40,[.int .i64 0,.int .i64 0,.int .i64 0,.int .i64 0,.int .i64 0]⟩:=by kernel_rfl
theorem Awk:Ac Tryz.prog 135=⟨.struct [(0,3),(1,3),(2,3),(3,58)],5,40,[.int .i64 0,.int .i64 0,.int .i64 0,.int .i64 0,.int .i64 0]⟩:=by kernel_rfl
theorem Avo:Ac Tryz.prog 136=⟨.other,1,8,[.nilFunc]⟩:=by kernel_rfl
theorem Av0:Ac Tryz.prog 137=⟨.struct [(0,3),(1,3),(2,3)],3,24,[.int .i64 0,.int .i64 0,.int .i64 0]⟩:=by kernel_rfl
theorem Axu:Ac Tryz.prog 138=⟨.other,1,8,[.nilFunc]⟩:=by kernel_rfl
theorem Ayq:Ac Tryz.prog 139=⟨.other,1,8,[.nilFunc]⟩:=by kernel_rfl
theorem Ayo:Ac Tryz.prog 140=⟨.other,1,8,[.nilFunc]⟩:=by kernel_rfl
theorem Ax5:Ac Tryz.prog 141=⟨.other,1,8,[.pointer none]⟩:=by kernel_rfl
theorem Axl:Ac Tryz.prog 142=⟨.other,1,8,[.nilFunc]⟩:=by kernel_rfl
theorem Axy:Ac Tryz.prog 143=⟨.other,1,8,[.nilFunc]⟩:=by kernel_rfl
theorem Ax4:Ac Tryz.prog 144=⟨.other,1,8,[.nilFunc]⟩:=by kernel_rfl
theorem Ayv:Ac Tryz.prog 145=⟨.other,1,8,[.nilFunc]⟩:=by kernel_rfl
theorem Aw8:Ac Tryz.prog 146=⟨.other,1,8,[.nilFunc]⟩:=by kernel_rfl
theorem Axs:Ac Tryz.prog 147=⟨.other,1,8,[.nilFunc]⟩:=by kernel_rfl
theorem Awl:Ac Tryz.prog 149=⟨.other,1,8,[.nilFunc]⟩:=by kernel_rfl
theorem Ay2:Ac Tryz.prog 150=⟨.other,1,8,[.nilFunc]⟩:=by kernel_rfl
theorem Aya:Ac Tryz.prog 151=⟨.other,1,8,[.nilFunc]⟩:=by kernel_rfl
theorem Azd:Ac Tryz.prog 152=⟨.other,1,8,[.nilFunc]⟩:=by kernel_rfl
theorem Axz:Ac Tryz.prog 153=⟨.other,1,8,[.nilFunc]⟩:=by kernel_rfl
theorem Aw7:Ac Tryz.prog 154=⟨.other,1,8,[.nilFunc]⟩:=by kernel_rfl
theorem Ay6:Ac Tryz.prog 155=⟨.other,1,8,[.nilFunc]⟩:=by kernel_rfl
theorem Avq:Ac Tryz.prog 156=⟨.struct [(0,155)],1,8,[.nilFunc]⟩:=by kernel_rfl
theorem Azi:Ac Tryz.prog 157=⟨.struct [(0,155)],1,8,[.nilFunc]⟩:=by kernel_rfl
theorem Axg:Ac Tryz.prog 158=⟨.arr 3 157,3,24,[.nilFunc,.nilFunc,.nilFunc]⟩:=by kernel_rfl
theorem Avl:Ac Tryz.prog 159=⟨.other,1,8,[.nilFunc]⟩:=by kernel_rfl
theorem Awg:Ac Tryz.prog 160=⟨.other,1,8,[.pointer none]⟩:=by kernel_rfl
theorem Ay5:Ac Tryz.prog 162=⟨.other,1,8,[.nilFunc]⟩:=by kernel_rfl
theorem Ayf:Ac Tryz.prog 163=⟨.other,1,8,[.nilFunc]⟩:=by kernel_rfl
theorem Axk:Ac Tryz.prog 164=⟨.other,1,8,[.nilFunc]⟩:=by kernel_rfl
theorem Aw5:Ac Tryz.prog 165=⟨.other,1,8,[.nilFunc]⟩:=by kernel_rfl
theorem Azf:Ac Tryz.prog 166=⟨.other,1,8,[.nilFunc]⟩:=by kernel_rfl
theorem Axx:Ac Tryz.prog 167=⟨.other,1,8,[.pointer none]⟩:=by kernel_rfl
theorem Axj:Ac Tryz.prog 168=⟨.other,1,8,[.nilFunc]⟩:=by kernel_rfl
theorem Awa:Ac Tryz.prog 169=⟨.other,1,8,[.nilFunc]⟩:=by kernel_rfl
theorem Ayc:Ac Tryz.prog 170=⟨.other,1,8,[.nilFunc]⟩:=by kernel_rfl
theorem Ax7:Ac Tryz.prog 171=⟨.other,1,8,[.nilFunc]⟩:=by kernel_rfl
theorem Ax9:Ac Tryz.prog 172=⟨.other,1,8,[.nilFunc]⟩:=by kernel_rfl
theorem Azj:Ac Tryz.prog 173=⟨.other,1,8,[.nilFunc]⟩:=by kernel_rfl
theorem Av7:Ac Tryz.prog 174=⟨.other,1,8,[.nilFunc]⟩:=by kernel_rfl
theorem Ay4:Ac Tryz.prog 175=⟨.mp 3 4,1,8,[.map none]⟩:=by kernel_rfl
theorem Axc:Ac Tryz.prog 176=⟨.sl 26,1,24,[.slice none 0 0]⟩:=by kernel_rfl
theorem Aza:Ac Tryz.prog 177=⟨.other,1,8,[.nilFunc]⟩:=by kernel_rfl
theorem Awb:Ac Tryz.prog 178=⟨.mp 194 196,1,8,[.map none]⟩:=by kernel_rfl
theorem Axv:Ac Tryz.prog 179=⟨.struct [(0,38),(2,178)],3,56,[.slice none 0 0,.slice none 0 0,.map none]⟩:=by kernel_rfl
theorem Avm:Ac Tryz.prog 180=⟨.struct [(0,38),(2,178)],3,56,[.slice none 0 0,.slice none 0 0,.map none]⟩:=by kernel_rfl
theorem Ayg:Ac Tryz.prog 181=⟨.other,1,8,[.nilFunc]⟩:=by kernel_rfl
theorem Ays:Ac Tryz.prog 182=⟨.other,1,8,[.nilFunc]⟩:=by kernel_rfl
theorem Aw2:Ac Tryz.prog 183=⟨.other,1,8,[.nilFunc]⟩:=by kernel_rfl
theorem Axr:Ac Tryz.prog 184=⟨.other,1,8,[.nilFunc]⟩:=by kernel_rfl
theorem Awe:Ac Tryz.prog 185=⟨.other,1,8,[.nilFunc]⟩:=by kernel_rfl
theorem Avz:Ac Tryz.prog 186=⟨.other,1,8,[.nilFunc]⟩:=by kernel_rfl
theorem Avt:Ac Tryz.prog 187=⟨.other,1,8,[.nilFunc]⟩:=by kernel_rfl
theorem Ax1:Ac Tryz.prog 188=⟨.other,1,8,[.nilFunc]⟩:=by kernel_rfl
theorem Ax6:Ac Tryz.prog 189=⟨.other,1,8,[.nilFunc]⟩:=by kernel_rfl
theorem Axe:Ac Tryz.prog 190=⟨.other,1,8,[.nilFunc]⟩:=by kernel_rfl
theorem Avr:Ac Tryz.prog 191=⟨.other,1,8,[.nilFunc]⟩:=by kernel_rfl
theorem Ax2:Ac Tryz.prog 192=⟨.other,1,8,[.nilFunc]⟩:=by kernel_rfl
theorem Azl:Ac Tryz.prog 193=⟨.struct [(0,135),(5,3),(6,120)],14,112,[.int .i64 0,.int .i64 0,.int .i64 0,.int .i64 0,.int .i64 0,.int .i64 0,.int .i64 0,.int .i64 0,.int .i64 0,.int .i64 0,.int .i64 0,.int .i64 0,.int .i64 0,.int .i64 0]⟩:=by kernel_rfl
theorem Axf:Ac Tryz.prog 194=⟨.struct [(0,135),(5,3),(6,120)],14,112,[.int .i64 0,.int .i64 0,.int .i64 0,.int .i64 0,.int .i64 0,.int .i64 0,.int .i64 0,.int .i64 0,.int .i64 0,.int .i64 0,.int .i64 0,.int .i64 0,.int .i64 0,.int .i64 0]⟩:=by kernel_rfl
theorem Awp:Ac Tryz.prog 195=⟨.struct [(0,120),(8,4)],9,72,[.int .i64 0,.int .i64 0,.int .i64 0,.int .i64 0,.int .i64 0,.int .i64 0,.int .i64 0,.int .i64 0,.bool false]⟩:=by kernel_rfl
theorem Ay0:Ac Tryz.prog 196=⟨.struct [(0,120),(8,4)],9,72,[.int .i64 0,.int .i64 0,.int .i64 0,.int .i64 0,.int .i64 0,.int .i64 0,.int .i64 0,.int .i64 0,.bool false]⟩:=by kernel_rfl
theorem Ayz:Ac Tryz.prog 198=⟨.other,1,8,[.nilFunc]⟩:=by kernel_rfl
theorem Awu:Ac Tryz.prog 199=⟨.other,1,8,[.nilFunc]⟩:=by kernel_rfl
theorem Ayj:Ac Tryz.prog 200=⟨.other,1,8,[.nilFunc]⟩:=by kernel_rfl
theorem Awm:Ac Tryz.prog 201=⟨.other,1,8,[.nilFunc]⟩:=by kernel_rfl
theorem Axh:Ac Tryz.prog 202=⟨.other,1,8,[.nilFunc]⟩:=by kernel_rfl
theorem Aym:Ac Tryz.prog 203=⟨.other,1,8,[.nilFunc]⟩:=by kernel_rfl
theorem Av2:Ac Tryz.prog 204=⟨.other,1,8,[.nilFunc]⟩:=by kernel_rfl
theorem Avw:Ac Tryz.prog 205=⟨.other,1,8,[.nilFunc]⟩:=by kernel_rfl
theorem Avx:Ac Tryz.prog 206=⟨.other,1,8,[.pointer none]⟩:=by kernel_rfl
theorem Ayh:Ac Tryz.prog 207=⟨.other,1,8,[.nilFunc]⟩:=by kernel_rfl
theorem Ayt:Ac Tryz.prog 208=⟨.other,1,8,[.nilFunc]⟩:=by kernel_rfl
theorem Awx:Ac Tryz.prog 209=⟨.other,1,8,[.nilFunc]⟩:=by kernel_rfl
theorem Avu:Ac Tryz.prog 212=⟨.arr 0 16,0,0,[]⟩:=by kernel_rfl
theorem Axn:Ac Tryz.prog 213=⟨.struct [(0,212)],0,0,[]⟩:=by kernel_rfl
theorem Awy:Ac Tryz.prog 214=⟨.struct [(0,212)],0,0,[]⟩:=by kernel_rfl
theorem Aws:Ac Tryz.prog 215=⟨.int .u32,1,4,[.int .u32 0]⟩:=by kernel_rfl
theorem Aw0:Ac Tryz.prog 216=⟨.int .u8,1,1,[.int .u8 0]⟩:=by kernel_rfl
theorem Av3:Ac Tryz.prog 217=⟨.int .u8,1,1,[.int .u8 0]⟩:=by kernel_rfl
theorem Awj:Ac Tryz.prog 218=⟨.other,1,8,[.nilFunc]⟩:=by kernel_rfl
theorem Azk:Ac Tryz.prog 219=⟨.other,1,8,[.pointer none]⟩:=by kernel_rfl
theorem Ay3:Ac Tryz.prog 220=⟨.int .i32,1,4,[.int .i32 0]⟩:=by kernel_rfl
theorem Av6:Ac Tryz.prog 221=⟨.int .i32,1,4,[.int .i32 0]⟩:=by kernel_rfl
theorem Aw9:Ac Tryz.prog 222=⟨.struct [(0,12),(1,12),(2,215),(3,216),(4,5),(5,5),(6,217),(7,218),(8,219),(9,220),(10,221)],11,48,[.int .u64 0,.int .u64 0,.int .u32 0,.int .u8 0,.int .u8 0,.int .u8 0,.int .u8 0,.nilFunc,.pointer none,.int .i32 0,.int .i32 0]⟩:=by kernel_rfl
theorem Awf:Ac Tryz.prog 223=⟨.struct [(0,12),(1,12),(2,215),(3,216),(4,5),(5,5),(6,217),(7,218),(8,219),(9,220),(10,221)],11,48,[.int .u64 0,.int .u64 0,.int .u32 0,.int .u8 0,.int .u8 0,.int .u8 0,.int .u8 0,.nilFunc,.pointer none,.int .i32 0,.int .i32 0]⟩:=by kernel_rfl
theorem Avs:Ac Tryz.prog 224=⟨.other,1,8,[.pointer none]⟩:=by kernel_rfl
def Bf0:=PLift.up (And.intro @ty1 (And.intro @ty2 (And.intro @ty3 (And.intro @ty4 (And.intro @ty5 (And.intro @ty6 (And.intro @ty7 (And.intro @ty8 (And.intro @Bcj (And.intro @Bes (And.intro @Bc5 (And.intro @Bfe (And.intro @Bf1 (And.intro @Bf2 (And.intro @Bd9 (And.intro @Bcw (And.intro @Bfc (And.intro @Bdk (And.intro @Bdr (And.intro @Bdu (And.intro @Bcz (And.intro @Bed (And.intro @Ben (@Bfs))))))))))))))))))))))))
def Bdx:=PLift.up (And.intro @Beb (And.intro @Bgr (And.intro @Bcr (And.intro @Bds (And.intro @Bex (And.intro @Bdf (And.intro @Bgj (And.intro @Bfr (And.intro @Bet (And.intro @Bfm (And.intro @Beo (And.intro @Bd8 (And.intro @Bd1 (And.intro @Bfa (And.intro @Bee (And.intro @Bfh (And.intro @Bgd (And.intro @Bco (And.intro @Be6 (And.intro @Bfu (And.intro @Bct (And.intro @Bgn (And.intro @Bek (@Bez))))))))))))))))))))))))
def Bd3:=PLift.up (And.intro @Bgq (And.intro @Bdj (And.intro @Bf8 (And.intro @Bel (And.intro @Bge (And.intro @Bc9 (And.intro @Bfg (And.intro @Bc4 (And.intro @Bcy (And.intro @Bew (And.intro @Bgh (And.intro @Bdy (And.intro @Be7 (And.intro @Bdl (And.intro @Bcm (And.intro @Bei (And.intro @Bff (And.intro @Bea (And.intro @Be5 (And.intro @Bdb (And.intro @Bcx (And.intro @Bdw (And.intro @Bd5 (@Ber))))))))))))))))))))))))
def Be4:=PLift.up (And.intro @Bfy (And.intro @Bch (And.intro @Bce (And.intro @Bem (And.intro @Bfl (And.intro @Bdq (And.intro @Bd2 (And.intro @Bd7 (And.intro @Bcf (And.intro @Bfi (And.intro @Bdz (And.intro @Bdt (And.intro @Bc6 (And.intro @Bc7 (And.intro @Avy (And.intro @Avk (And.intro @Ayd (And.intro @Ay9 (And.intro @Ay7 (And.intro @Ayp (And.intro @Azb (And.intro @Aw1 (And.intro @Awh (@Av1))))))))))))))))))))))))
def Beg:=PLift.up (And.intro @Azg (And.intro @Axp (And.intro @Awr (And.intro @Azc (And.intro @Axd (And.intro @Ayi (And.intro @Axm (And.intro @Axb (And.intro @Azm (And.intro @Aji (And.intro @Awc (And.intro @Ax3 (And.intro @Ayw (And.intro @Ayy (And.intro @Avn (And.intro @Ay1 (And.intro @Ax8 (And.intro @Awv (And.intro @Aye (And.intro @Avp (And.intro @Axw (And.intro @Av5 (And.intro @Ayr (@Awk))))))))))))))))))))))))
def Bep:=PLift.up (And.intro @Avo (And.intro @Av0 (And.intro @Axu (And.intro @Ayq (And.intro @Ayo (And.intro @Ax5 (And.intro @Axl (And.intro @Axy (And.intro @Ax4 (And.intro @Ayv (And.intro @Aw8 (And.intro @Axs (And.intro @Awl (And.intro @Ay2 (And.intro @Aya (And.intro @Azd (And.intro @Axz (And.intro @Aw7 (And.intro @Ay6 (And.intro @Avq (And.intro @Azi (And.intro @Axg (And.intro @Avl (@Awg))))))))))))))))))))))))
def Bfv:=PLift.up (And.intro @Ay5 (And.intro @Ayf (And.intro @Axk (And.intro @Aw5 (And.intro @Azf (And.intro @Axx (And.intro @Axj (And.intro @Awa (And.intro @Ayc (And.intro @Ax7 (And.intro @Ax9 (And.intro @Azj (And.intro @Av7 (And.intro @Ay4 (And.intro @Axc (And.intro @Aza (And.intro @Awb (And.intro @Axv (And.intro @Avm (And.intro @Ayg (And.intro @Ays (And.intro @Aw2 (And.intro @Axr (@Awe))))))))))))))))))))))))
def Beu:=PLift.up (And.intro @Avz (And.intro @Avt (And.intro @Ax1 (And.intro @Ax6 (And.intro @Axe (And.intro @Avr (And.intro @Ax2 (And.intro @Azl (And.intro @Axf (And.intro @Awp (And.intro @Ay0 (And.intro @Ayz (And.intro @Awu (And.intro @Ayj (And.intro @Awm (And.intro @Axh (And.intro @Aym (And.intro @Av2 (And.intro @Avw (And.intro @Avx (And.intro @Ayh (And.intro @Ayt (And.intro @Awx (@Avu))))))))))))))))))))))))
def Bgi:=PLift.up (And.intro @Axn (And.intro @Awy (And.intro @Aws (And.intro @Aw0 (And.intro @Av3 (And.intro @Awj (And.intro @Azk (And.intro @Ay3 (And.intro @Av6 (And.intro @Aw9 (And.intro @Awf (@Avs))))))))))))
def Bec:=PLift.up (And.intro Bf0.down (And.intro Bdx.down (And.intro Bd3.down (And.intro Be4.down (And.intro Beg.down (And.intro Bep.down (And.intro Bfv.down (And.intro Beu.down (Bgi.down)))))))))
theorem amT:type_of% Bec.down:=Bec.down
end AM.Try
end
/- The program's small functions: ranges, vessels, steps. -/
section
namespace AM.Try
open Go AM AM.Wort Go.Proofs
open Nat renaming reduceLT→sA,reduceAdd→sB,reduceMul→sC,reduceSub→sD,reduceLeDiff→sE,reduceEqDiff→sF,reduceBEq→sG
open Int renaming reduceAdd→sH,reduceSub→sI,reduceMul→sJ,reduceLT→sK,reduceLE→sL,reduceNeg→sM,reduceToNat→sN,reduceEq→sO
set_option maxRecDepth 100000
set_option maxHeartbeats 8000000
theorem Md (n lo hi:Int):Bj Tryz.prog 75 [i64 n,i64 lo,i64 hi] (bl (inB n lo hi)):=by
  refine A7 (v:=[]) (q:=[]) (N:=15) (rs:=[.tmp 6]) Tryz.func75 rfl rfl rfl rfl rfl ?_
  refine Aa fun K1 hK1=>?_
  refine Ab ?_
  simp (disch:=omega) only [amL,sA,sB]
  refine hK1 _ ?_
  refine Aa fun K2 hK2=>?_
  refine Ab ?_
  simp (disch:=omega) only [amL,amT,sA,sF,↓reduceIte,reduceCtorEq]
  repeat' first | (refine Cn (fun h=>?_) (fun h=>?_) <;> simp (disch:=omega) only [h,amL,amT,sA,sF,↓reduceIte,reduceCtorEq]) | (refine Bo (fun h=>?_) (fun h=>?_) <;> simp (disch:=omega) only [h,amL,amT,sA,sB,sC,sD,sE,sF,sG,sH,sI,sJ,sK,sL,sM,sN,sO,↓reduceIte,reduceCtorEq])
  all_goals
   skip
   refine hK2 _ ?_
   refine Ae ?_
   try simp (disch:=omega) only [amL,↓reduceIte]
   simp [inB,h]
theorem Ajp (r:Rng) (n:Int):Bj Tryz.prog 59 [avR r,i64 n] (bl (Ko r n)):=by
  refine A7 (v:=[]) (q:=[]) (N:=11) (rs:=[.tmp 4]) Tryz.func59 rfl rfl rfl rfl rfl ?_
  refine Aa fun K1 hK1=>?_
  refine Ab ?_
  simp (disch:=omega) only [amL,sA,sB,↓reduceIte]
  refine hK1 _ ?_
  refine Aa fun K2 hK2=>?_
  refine Ab ?_
  simp (disch:=omega) only [amL,amT,sA,sF,↓reduceIte,reduceCtorEq]
  repeat' first | (refine Al (by kernel_rfl) rfl (Md _ _ _) (by first | exact .inl rfl | exact .inr (.inl rfl)) ?_ ; simp (disch:=omega) only [amL,sA,↓reduceIte])
  refine hK2 _ ?_
  refine Ae ?_
  try simp (disch:=omega) only [amL,↓reduceIte]
  rfl
theorem Ahr (r:Rng) (h1:-9223372036854775808≤r.hi - r.lo) (h2:r.hi - r.lo < 9223372036854775807):Bj Tryz.prog 69 [avR r] (i64 (Dp r)):=by
  refine A7 (v:=[]) (q:=[]) (N:=9) (rs:=[.tmp 2]) Tryz.func69 rfl rfl rfl rfl rfl ?_
  refine Aa fun K1 hK1=>?_
  refine Ab ?_
  simp (disch:=omega) only [amL,sA,↓reduceIte]
  refine hK1 _ ?_
  refine Aa fun K2 hK2=>?_
  refine Ab ?_
  simp (disch:=omega) only [amL,amT,sA,sF,↓reduceIte,reduceCtorEq]
  refine hK2 _ ?_
  refine Ae ?_
  try simp (disch:=omega) only [amL,↓reduceIte]
  rfl
theorem Aoy {r:Rng} {most:Int}:Gp r most=(decide (0≤r.lo)&&(decide (r.lo≤r.hi)&&(decide (r.hi≤most)&&decide (r.hi - r.lo≤2)))):=rfl
theorem Ads (r:Rng) (most:Int) (hm:most < 9223372036854775807):Bj Tryz.prog 104 [avR r,i64 most] (bl (Gp r most)):=by
  refine A7 (v:=[]) (q:=[]) (N:=29) (rs:=[.tmp 4]) Tryz.func104 rfl rfl rfl rfl rfl ?_
  refine Aa fun K1 hK1=>?_
  refine Ab ?_
  simp (disch:=omega) only [amL,sA,sB,↓reduceIte]
  refine hK1 _ ?_
  refine Aa fun K2 hK2=>?_
  refine Ab ?_
  simp (disch:=omega) only [amL,amT,sA,sF,↓reduceIte,reduceCtorEq]
  repeat' first | (refine Cn (fun h=>?_) (fun h=>?_) <;> simp (disch:=omega) only [h,amL,amT,sA,sF,↓reduceIte,reduceCtorEq]) | (refine Bo (fun h=>?_) (fun h=>?_) <;> simp (disch:=omega) only [h,amL,amT,sA,sB,sC,sD,sE,sF,sG,sH,sI,sJ,sK,sL,sM,sN,sO,↓reduceIte,reduceCtorEq])
  all_goals
   skip
   refine hK2 _ ?_
   refine Ae ?_
   try simp (disch:=omega) only [amL,↓reduceIte]
   all_goals (simp_all [Aoy] <;> omega)
theorem Aso (v:Ves):Bj Tryz.prog 67 [avV v] (bl (Df v)):=by
  refine A7 (v:=[]) (q:=[]) (N:=16) (rs:=[.tmp 2]) Tryz.func67 rfl rfl rfl rfl rfl ?_
  refine Aa fun K1 hK1=>?_
  refine Ab ?_
  simp (disch:=omega) only [amL,sA,↓reduceIte]
  refine hK1 _ ?_
  refine Aa fun K2 hK2=>?_
  refine Ab ?_
  simp (disch:=omega) only [amL,amT,sA,sB,sE,sF,↓reduceIte,reduceCtorEq]
  repeat' first | (refine Cn (fun h=>?_) (fun h=>?_) <;> simp (disch:=omega) only [h,amL,amT,sA,sB,sC,sD,sE,sF,sG,sH,sI,sJ,sK,sL,sM,sN,sO,↓reduceIte,reduceCtorEq]) | (refine Bo (fun h=>?_) (fun h=>?_) <;> simp (disch:=omega) only [h,amL,amT,sA,sB,sE,sF,↓reduceIte,reduceCtorEq]) | (refine Al (by kernel_rfl) rfl (Ads ⟨_,_⟩ _ (by omega)) (by first | exact .inl rfl | exact .inr (.inl rfl)) ?_ ; simp (disch:=omega) only [amL,sA,sF,↓reduceIte]) | (refine Al (by kernel_rfl) rfl (Md _ _ _) (by first | exact .inl rfl | exact .inr (.inl rfl)) ?_ ; simp (disch:=omega) only [amL,sA,sF,↓reduceIte])
  all_goals
   skip
   refine hK2 _ ?_
   refine Ae ?_
   try simp (disch:=omega) only [amL,↓reduceIte]
   all_goals simp_all [Df]
theorem As0 {b:Cx} {n:Int} {nb:Nat} {os:Nat→Option AO} {bd:Nat} (hb:os nb=some (.cells (cB b))) (hl:b.vs.length < 1000000) :
    Bt Tryz.prog bd (.fn (.func 103) [] [.ptr nb 0]) [i64 n] os fun res os'=>res=bl (inB n 0 ((b.vs.length:Int) - 1))∧os'=os:=by
  refine Ck (v:=[]) (q:=[]) (N:=10) (rs:=[.tmp 3]) Tryz.func103 rfl (by kernel_rfl) rfl rfl (fun hcl hfree=>?_)
  refine Aa fun K1 hK1=>?_
  refine Ab ?_
  simp (disch:=omega) only [amL,sA,sB]
  refine hK1 _ ?_
  refine Aa fun K2 hK2=>?_
  refine Ab ?_
  simp (disch:=omega) only [hb,amL,amT,sA,sF,↓reduceIte,reduceCtorEq]
  repeat' first | (refine Al (by kernel_rfl) rfl (Md _ _ _) (by first | exact .inl rfl | exact .inr (.inl rfl)) ?_ ; simp (disch:=omega) only [amL,sA,↓reduceIte])
  refine hK2 _ ?_
  refine Ae ?_
  try simp (disch:=omega) only [amL]
  refine Ba (res:=bl _) os (by simp (disch:=omega) only [amL,↓reduceIte]; try rfl) (Sub.refl _) hcl (AV.lives_p _ _) ⟨rfl,rfl⟩
theorem Asd {n:Int} {s:Stp}:Dm n s=(inB s.kind 0 2&&(inB s.frm 0 (n - 1)&&(inB s.to 0 (n - 1)&&((decide (s.frm=s.to) == !decide (s.kind=0))&&Gp s.g 60)))):=rfl
theorem Azn (b:Cx) (s:Stp) (hl:b.vs.length < 1000000):Bj Tryz.prog 65 [avB b,avS s] (bl (Dm b.vs.length s)):=by
  refine A7 (v:=[]) (q:=[]) (N:=38) (rs:=[.tmp 4]) Tryz.func65 rfl rfl rfl rfl rfl ?_
  obtain ⟨e,he⟩:∃ e:Bool,(decide (s.frm=s.to) == decide (s.kind≠0))=e:=⟨_,rfl⟩
  refine Aa fun K1 hK1=>?_
  refine Ab ?_
  simp (disch:=omega) only [amL,sA,sB,sF,↓reduceIte,reduceCtorEq]
  refine hK1 _ ?_
  refine Aa fun K2 hK2=>?_
  refine Ab ?_
  simp (disch:=omega) only [amL,sA,sF,↓reduceIte]
  refine hK2 _ ?_
  refine Aa fun K3 hK3=>?_
  refine Ab ?_
  simp (disch:=omega) only [amL,amT,sA,sF,↓reduceIte,reduceCtorEq]
  repeat' first | (refine Cn (fun h=>?_) (fun h=>?_) <;> simp (disch:=omega) only [h,he,amL,amT,sA,sB,sC,sD,sE,sF,sG,sH,sI,sJ,sK,sL,sM,sN,sO,↓reduceIte,reduceCtorEq]) | (refine Bo (fun h=>?_) (fun h=>?_) <;> simp (disch:=omega) only [h,he,amL,amT,sA,sB,sF,↓reduceIte,reduceCtorEq]) | (refine Al (by kernel_rfl) rfl (Md _ _ _) (by first | exact .inl rfl | exact .inr (.inl rfl)) ?_ ; simp (disch:=omega) only [amL,sA,↓reduceIte]) | (refine Al (by kernel_rfl) rfl (Ads ⟨_,_⟩ _ (by omega)) (by first | exact .inl rfl | exact .inr (.inl rfl)) ?_ ; simp (disch:=omega) only [amL,sA,sF,↓reduceIte]) | (refine Cv (bd:=38) (by decide) (As0 (b:=b) rfl hl) (M8 rfl) (by decide) rfl ?_ ; simp (disch:=omega) only [amL,sA,sF,↓reduceIte])
  all_goals
   skip
   refine hK3 _ ?_
   refine Ae ?_
   try simp (disch:=omega) only [amL,↓reduceIte]
   all_goals simp_all [Asd]
theorem Auy {os:Nat→Option AO} {n m:Nat} {x y:Option AO} (hm:os m=none) (hne:n≠m):Sub (upd os n x) (upd (upd os m y) n x):=fun k=>by
  by_cases e:k=n
  · subst e; right; rw [Bp,Bp]
  · rw [Ad e,Ad e]
    by_cases e2:k=m
    · subst e2; left; exact hm
    · right; rw [Ad e2]
theorem S7 {os:Nat→Option AO} {n:Nat} {x:Option AO} (h:os n=x):upd os n x=os:=by
  funext k; by_cases e:k=n
  · subst e; rw [Bp,h]
  · rw [Ad e]
theorem Rc {v:List Liq} {i:Nat} {x:AV} (h:(cW v)[i]?=some x):x.isP=true:=by
  unfold cW at h
  rw [List.getElem?_map,Option.map_eq_some_iff] at h
  obtain ⟨n,_,rfl⟩:=h
  rfl
theorem R5 {v w:List Liq} {tl:List AV} {nv:Nat} {os:Nat→Option AO} (hcl:(Hp os).closed) (ov:os nv=some (.cells (cW v++tl))):(Hp (upd os nv (some (.cells (cW w++tl))))).closed:=by
  refine De hcl (AO.lives_cells.2 fun i x hx=>?_)
  have hm:∀ m,(os m).isSome=true→(upd os nv (some (.cells (cW w++tl))) m).isSome=true:=fun m hm=>by
    by_cases e:m=nv
    · subst e; rw [Bp]; rfl
    · rw [Ad e]; exact hm
  by_cases h:i < (cW w).length
  · rw [List.getElem?_append_left h] at hx; exact Bd _ (Rc hx)
  · rw [List.getElem?_append_right (by omega)] at hx
    have h2:=AO.lives_cells.1 (hcl.2 nv _ ov) ((cW v).length+(i - (cW w).length)) x (by rw [List.getElem?_append_right (by omega)]; rw [← hx]; congr 1; omega)
    exact AV.lives_mono hm h2
theorem Mr {g e:Int} (h1:0≤g) (h2:g≤1000000) (h3:0≤e) (h4:e≤1000000000):-9223372036854775808≤(2 * e+g) / (2 * g)∧(2 * e+g) / (2 * g) < 9223372036854775808:=by
  have e1:0≤(2 * e+g) / (2 * g):=Int.ediv_nonneg (by omega) (by omega)
  have e2:=Int.ediv_le_self (2 * g) (show 0≤2 * e+g by omega)
  omega
theorem Ahe {n e g:Int} (h1:0≤n) (h2:n≤1000000) (h3:0≤e) (h4:e≤1000000000) (_:0 < g):(0≤n * e∧n * e≤1000000000000000)∧True:=by
  refine ⟨⟨Int.mul_nonneg h1 h3,?_⟩,trivial⟩
  have:=Int.mul_le_mul h2 h4 h3 (by omega)
  omega
theorem Zx (l:Liq) (h:Ss l):Bj Tryz.prog 62 [avL l] (i64 (Nf l)):=by
  obtain ⟨⟨h1,h2⟩,h3,h4⟩:=h
  refine A7 (v:=[]) (q:=[]) (N:=16) (rs:=[.tmp 2]) Tryz.func62 rfl rfl rfl rfl rfl ?_
  refine Aa fun K1 hK1=>?_
  refine Ab ?_
  simp (disch:=omega) only [amL,sA,↓reduceIte]
  refine hK1 _ ?_
  refine Aa fun K2 hK2=>?_
  refine Aa fun K3 hK3=>?_
  refine Ab ?_
  simp (disch:=omega) only [amL,amT,sA,sF,↓reduceIte,reduceCtorEq]
  refine hK3 _ ?_
  refine Ag rfl (fun h=>?_) (fun h=>?_)
  ·first
   | exact Bool.noConfusion h
   |skip
    try simp only [decide_eq_true_eq] at h
    refine Aa fun K4 hK4=>?_
    refine Ab ?_
    simp (disch:=omega) only [amL,sA]
    refine hK4 _ ?_
    refine Ae ?_
    try simp (disch:=omega) only [amL,↓reduceIte]
    first | (unfold Nf; rw [if_pos h]; done) | (unfold Nf; rw [if_neg h,D1 (Mr h1 h2 h3 h4).1 (Mr h1 h2 h3 h4).2])
  ·first
   | exact Bool.noConfusion h
   |skip
    try simp only [decide_eq_false_iff_not] at h
    refine Ah ?_
    refine hK2 _ ?_
    refine Aa fun K5 hK5=>?_
    refine Ab ?_
    simp (disch:=omega) only [amL,amT,sA,sF,↓reduceIte,reduceCtorEq]
    refine hK5 _ ?_
    refine Ae ?_
    try simp (disch:=omega) only [amL,↓reduceIte]
    first | (unfold Nf; rw [if_pos h]; done) | (unfold Nf; rw [if_neg h,D1 (Mr h1 h2 h3 h4).1 (Mr h1 h2 h3 h4).2])
theorem Aue {v:List Liq} {tl:List AV} {s:Stp} {n:Int} {nv:Nat} {os:Nat→Option AO} {bd:Nat} (hw:Hz v) (hs:0≤s.to∧s.to.toNat < v.length∧s.to < 4) (hn:0≤n∧n≤1000000) (ov:os nv=some (.cells (cW v++tl))) :
    Bt Tryz.prog bd (.fn (.func 120) [] []) [.ptr nv 0,avS s,i64 n] os fun res os'=>res=bl (Lb v s.to.toNat n).2∧os'=upd os nv (some (.cells (cW (Lb v s.to.toNat n).1++tl))):=by
  refine Ck (v:=[]) (q:=[]) (N:=19) (rs:=[.tmp 6]) Tryz.func120 rfl (by kernel_rfl) rfl rfl (fun hcl hfree=>?_)
  have hfr0:∀ k,os (bd+k)=none:=fun k=>hfree _ (by omega)
  have hlt:=Au hfree ov
  obtain ⟨⟨h1,h2⟩,h3,h4⟩:=hw s.to.toNat
  refine Aa fun K1 hK1=>?_
  refine Ab ?_
  simp (disch:=omega) only [hfr0,amL,sA,sB,↓reduceIte,reduceCtorEq]
  refine hK1 _ ?_
  refine Aa fun K2 hK2=>?_
  refine Bg (by kernel_rfl) (by kernel_rfl) ?_
  simp (disch:=omega) only [ov,Ad,tkG,Aa7,Hn,amL,amT,sA,sF,sH,↓reduceIte,reduceCtorEq]
  refine hK2 _ ?_
  refine Aa fun K3 hK3=>?_
  refine Ab ?_
  simp (disch:=omega) only [amL,sA]
  refine hK3 _ ?_
  refine Ae ?_
  try simp (disch:=omega) only [amL]
  refine Ba (res:=bl _) (upd os nv (some (.cells (cW (Lb v s.to.toNat n).1++tl)))) (by simp (disch:=omega) only [amL,↓reduceIte]; try rfl) (Auy (hfr0 _) (by omega)) (R5 hcl ov) (AV.lives_p _ _) ⟨rfl,rfl⟩
theorem Azq {v:List Liq} {tl:List AV} {s:Stp} {n:Int} {nv:Nat} {os:Nat→Option AO} {bd:Nat} (hw:Hz v) (hs:0≤s.frm∧s.frm.toNat < v.length∧s.frm < 4) (hn:0≤n∧n≤1000000) (ov:os nv=some (.cells (cW v++tl))) :
    Bt Tryz.prog bd (.fn (.func 121) [] []) [.ptr nv 0,avS s,i64 n] os fun res os'=>res=bl (Qm v s.frm.toNat n).2∧os'=upd os nv (some (.cells (cW (Qm v s.frm.toNat n).1++tl))):=by
  refine Ck (v:=[]) (q:=[]) (N:=39) (rs:=[.tmp 6]) Tryz.func121 rfl (by kernel_rfl) rfl rfl (fun hcl hfree=>?_)
  have hfr0:∀ k,os (bd+k)=none:=fun k=>hfree _ (by omega)
  have hlt:=Au hfree ov
  obtain ⟨⟨h1,h2⟩,h3,h4⟩:=hw s.frm.toNat
  refine Aa fun K1 hK1=>?_
  refine Ab ?_
  simp (disch:=(first | omega | (simp only [List.length_set]; omega))) only [hfr0,amL,sA,sB,↓reduceIte,reduceCtorEq]
  refine hK1 _ ?_
  refine Aa fun K2 hK2=>?_
  refine Bg (by kernel_rfl) (by kernel_rfl) ?_
  simp (disch:=(first | omega | (simp only [List.length_set]; omega))) only [ov,Ad,Ea,Aa7,Hn,amL,amT,sA,sF,sH,↓reduceIte,reduceCtorEq]
  refine hK2 _ ?_
  refine Aa fun K3 hK3=>?_
  refine Bg (by kernel_rfl) (by kernel_rfl) ?_
  simp (disch:=(first | omega | (simp only [List.length_set]; omega))) only [hfr0,Ad,Ea,Hn,J6,amL,amT,sA,sB,sE,sF,sH,↓reduceIte,reduceCtorEq]
  refine hK3 _ ?_
  refine Aa fun K4 hK4=>?_
  refine Ab ?_
  simp (disch:=(first | omega | (simp only [List.length_set]; omega))) only [amL,amT,sA,↓reduceIte,reduceCtorEq]
  repeat' first | (refine Cn (fun h=>?_) (fun h=>?_) <;> simp (disch:=(first | omega | (simp only [List.length_set]; omega))) only [h,amL,amT,sA,sF,↓reduceIte,reduceCtorEq]) | (refine Bo (fun h=>?_) (fun h=>?_) <;> simp (disch:=(first | omega | (simp only [List.length_set]; omega))) only [h,ov,hfr0,Ad,Ea,Jx,Aa7,Hn,J6,amL,amT,sA,sB,sC,sD,sE,sF,sG,sH,sI,sJ,sK,sL,sM,sN,sO,↓reduceIte,reduceCtorEq])
  all_goals
   skip
   refine hK4 _ ?_
   refine Ae ?_
   try simp (disch:=(first | omega | (simp only [List.length_set]; omega))) only [amL]
   refine Ba (res:=bl _) (upd os nv (some (.cells (cW (v.set s.frm.toNat ⟨_,(v.getD s.frm.toNat default).e⟩)++tl)))) (by simp (disch:=(first | omega | (simp only [List.length_set]; omega))) only [amL,↓reduceIte]; try rfl) (by first | ((repeat' first | exact Sub.refl _ | refine Sub.skip (by first | exact hfr0 _ | (simp (disch:=omega) only [Ad]; exact hfr0 _)) ?_ | refine Sub.both ?_); done) | fail) (R5 hcl ov) (AV.lives_p _ _) ⟨?_,?_⟩
   all_goals (unfold Qm; simp_all)
theorem Ba4 {v:List Liq} {tl:List AV} {s:Stp} {n:Int} {nv:Nat} {os:Nat→Option AO} {bd:Nat} (hw:Hz v) (hs:0≤s.frm∧s.frm.toNat < v.length∧s.frm < 4) (ht:0≤s.to∧s.to.toNat < v.length∧s.to < 4) (hn:0≤n∧n≤1000000) (ov:os nv=some (.cells (cW v++tl))) :
    Bt Tryz.prog bd (.fn (.func 119) [] []) [.ptr nv 0,avS s,i64 n] os fun res os'=>res=bl (Ex v s.frm.toNat s.to.toNat n).2∧os'=upd os nv (some (.cells (cW (Ex v s.frm.toNat s.to.toNat n).1++tl))):=by
  refine Ck (v:=[]) (q:=[]) (N:=69) (rs:=[.tmp 6]) Tryz.func119 rfl (by kernel_rfl) rfl rfl (fun hcl hfree=>?_)
  have hfr0:∀ k,os (bd+k)=none:=fun k=>hfree _ (by omega)
  have hlt:=Au hfree ov
  obtain ⟨⟨h1,h2⟩,h3,h4⟩:=hw s.frm.toNat
  obtain ⟨⟨k1,k2⟩,k3,k4⟩:=hw s.to.toNat
  refine Aa fun K1 hK1=>?_
  refine Ab ?_
  simp (disch:=(first | omega | (simp only [List.length_set]; omega))) only [hfr0,amL,sA,sB,↓reduceIte,reduceCtorEq]
  refine hK1 _ ?_
  refine Aa fun K2 hK2=>?_
  refine Bg (by kernel_rfl) (by kernel_rfl) ?_
  simp (disch:=(first | omega | (simp only [List.length_set]; omega))) only [amL,amT,sA,sF,sH,↓reduceIte,reduceCtorEq]
  refine hK2 _ ?_
  refine Aa fun K3 hK3=>?_
  refine Aa fun K4 hK4=>?_
  refine Ab ?_
  simp (disch:=(first | omega | (simp only [List.length_set]; omega))) only [ov,Ad,Ea,amL,amT,sA,sF,↓reduceIte,reduceCtorEq]
  refine hK4 _ ?_
  refine Ag rfl (fun h=>?_) (fun h=>?_)
  ·first
   | exact Bool.noConfusion h
   |skip
    try simp only [decide_eq_true_eq] at h
    refine Aa fun K5 hK5=>?_
    refine Ab ?_
    simp (disch:=(first | omega | (simp only [List.length_set]; omega))) only [amL,sA]
    refine hK5 _ ?_
    refine Ae ?_
    try simp (disch:=(first | omega | (simp only [List.length_set]; omega))) only [amL]
    first | (refine Ba (res:=bl _) os (by simp (disch:=(first | omega | (simp only [List.length_set]; omega))) only [amL,↓reduceIte]; try rfl) (by first | ((repeat' first | exact Sub.refl _ | refine Sub.skip (by first | exact hfr0 _ | (simp (disch:=omega) only [Ad]; exact hfr0 _)) ?_ | refine Sub.both ?_); done) | fail) hcl (AV.lives_p _ _) ⟨?_,?_⟩ ; all_goals first | (rw [Ex,if_pos h]; done) | (rw [Ex,if_pos h,S7 ov]; done) | (rw [Ex,if_neg (by assumption),if_neg h]; done) | (rw [Ex,if_neg (by assumption),if_neg h,S7 ov]; done)) | (refine Ba (res:=bl _) (upd os nv (some (.cells (cW (Hy v s.frm.toNat s.to.toNat n)++tl)))) (by simp (disch:=(first | omega | (simp only [List.length_set]; omega))) only [ov,hfr0,Ad,Ea,Jx,Aa7,Aka,Hn,J6,List.set_set,Cb,amL,amT,sA,sB,sC,sD,sE,sF,sG,sH,sI,sJ,sK,sL,sM,sN,sO,↓reduceIte,reduceCtorEq]; try rfl) (by first | ((repeat' first | exact Sub.refl _ | refine Sub.skip (by first | exact hfr0 _ | (simp (disch:=omega) only [Ad]; exact hfr0 _)) ?_ | refine Sub.both ?_); done) | fail) (R5 hcl ov) (AV.lives_p _ _) ⟨?_,?_⟩ ; all_goals (rw [Ex,if_neg (by assumption),if_pos h])) | trace_state
  ·first
   | exact Bool.noConfusion h
   |skip
    try simp only [decide_eq_false_iff_not] at h
    refine Ah ?_
    refine hK3 _ ?_
    refine Aa fun K6 hK6=>?_
    refine Aa fun K7 hK7=>?_
    refine Ab ?_
    simp (disch:=(first | omega | (simp only [List.length_set]; omega))) only [amL,amT,sA,sF,↓reduceIte,reduceCtorEq]
    refine hK7 _ ?_
    refine Ag rfl (fun h=>?_) (fun h=>?_)
    ·first
     | exact Bool.noConfusion h
     |skip
      try simp only [decide_eq_true_eq] at h
      refine Aa fun K8 hK8=>?_
      refine Bg (by kernel_rfl) (by kernel_rfl) ?_
      have hg:0 < (v.getD s.frm.toNat default).g:=by omega
      have hb:=Ahe (n:=n) hn.1 hn.2 h3 h4 hg
      have hm:IntKind.i64.wrap (n * (v.getD s.frm.toNat default).e)=n * (v.getD s.frm.toNat default).e:=D1 (by omega) (by omega)
      have htd:(n * (v.getD s.frm.toNat default).e).tdiv (v.getD s.frm.toNat default).g=Fk v s.frm.toNat n:=Int.tdiv_eq_ediv_of_nonneg hb.1.1
      have hx:=Rf (n:=n) hn.1 (show n≤(v.getD s.frm.toNat default).g by omega) h3 hg
      have hx1:0≤Fk v s.frm.toNat n:=hx.1
      have hx2:Fk v s.frm.toNat n≤(v.getD s.frm.toNat default).e:=hx.2
      obtain ⟨⟨q1,q2⟩,q3,q4⟩:=Al1 (k:=s.frm.toNat) (a:=⟨(v.getD s.frm.toNat default).g - n,(v.getD s.frm.toNat default).e - Fk v s.frm.toNat n⟩) hw ⟨⟨show 0≤(v.getD s.frm.toNat default).g - n by omega,show (v.getD s.frm.toNat default).g - n≤1000000 by omega⟩,show 0≤(v.getD s.frm.toNat default).e - Fk v s.frm.toNat n by omega,show (v.getD s.frm.toNat default).e - Fk v s.frm.toNat n≤1000000000 by omega⟩ s.to.toNat
      simp (disch:=(first | omega | (simp only [List.length_set]; omega))) only [hm,htd,ov,Ad,Ea,Jx,amL,amT,sA,sF,↓reduceIte,reduceCtorEq]
      refine hK8 _ ?_
      refine Aa fun K9 hK9=>?_
      refine Bg (by kernel_rfl) (by kernel_rfl) ?_
      simp (disch:=(first | omega | (simp only [List.length_set]; omega))) only [ov,Ad,Ea,Jx,Aa7,Aka,Hn,J6,List.set_set,amL,amT,sA,sB,sE,sF,↓reduceIte,reduceCtorEq]
      refine hK9 _ ?_
      refine Bg (by kernel_rfl) (by kernel_rfl) ?_
      simp (disch:=(first | omega | (simp only [List.length_set]; omega))) only [Ea,Jx,Aa7,Aka,Hn,J6,List.set_set,Cb,amL,amT,sA,sB,sE,sF,↓reduceIte,reduceCtorEq]
      refine hK6 _ ?_
      refine Aa fun K10 hK10=>?_
      refine Ab ?_
      simp (disch:=(first | omega | (simp only [List.length_set]; omega))) only [amL,sA]
      refine hK10 _ ?_
      refine Ae ?_
      try simp (disch:=(first | omega | (simp only [List.length_set]; omega))) only [amL]
      first | (refine Ba (res:=bl _) os (by simp (disch:=(first | omega | (simp only [List.length_set]; omega))) only [amL,↓reduceIte]; try rfl) (by first | ((repeat' first | exact Sub.refl _ | refine Sub.skip (by first | exact hfr0 _ | (simp (disch:=omega) only [Ad]; exact hfr0 _)) ?_ | refine Sub.both ?_); done) | fail) hcl (AV.lives_p _ _) ⟨?_,?_⟩ ; all_goals first | (rw [Ex,if_pos h]; done) | (rw [Ex,if_pos h,S7 ov]; done) | (rw [Ex,if_neg (by assumption),if_neg h]; done) | (rw [Ex,if_neg (by assumption),if_neg h,S7 ov]; done)) | (refine Ba (res:=bl _) (upd os nv (some (.cells (cW (Hy v s.frm.toNat s.to.toNat n)++tl)))) (by simp (disch:=(first | omega | (simp only [List.length_set]; omega))) only [amL,↓reduceIte]; try rfl) (by first | ((repeat' first | exact Sub.refl _ | refine Sub.skip (by first | exact hfr0 _ | (simp (disch:=omega) only [Ad]; exact hfr0 _)) ?_ | refine Sub.both ?_); done) | fail) (R5 hcl ov) (AV.lives_p _ _) ⟨?_,?_⟩ ; all_goals (rw [Ex,if_neg (by assumption),if_pos h])) | trace_state
    ·first
     | exact Bool.noConfusion h
     |skip
      try simp only [decide_eq_false_iff_not] at h
      refine Ah ?_
      refine hK6 _ ?_
      refine Aa fun K11 hK11=>?_
      refine Ab ?_
      simp (disch:=(first | omega | (simp only [List.length_set]; omega))) only [amL,sA]
      refine hK11 _ ?_
      refine Ae ?_
      try simp (disch:=(first | omega | (simp only [List.length_set]; omega))) only [amL]
      first | (refine Ba (res:=bl _) os (by simp (disch:=(first | omega | (simp only [List.length_set]; omega))) only [amL,↓reduceIte]; try rfl) (by first | ((repeat' first | exact Sub.refl _ | refine Sub.skip (by first | exact hfr0 _ | (simp (disch:=omega) only [Ad]; exact hfr0 _)) ?_ | refine Sub.both ?_); done) | fail) hcl (AV.lives_p _ _) ⟨?_,?_⟩ ; all_goals first | (rw [Ex,if_pos h]; done) | (rw [Ex,if_pos h,S7 ov]; done) | (rw [Ex,if_neg (by assumption),if_neg h]; done) | (rw [Ex,if_neg (by assumption),if_neg h,S7 ov]; done)) | (refine Ba (res:=bl _) (upd os nv (some (.cells (cW (Hy v s.frm.toNat s.to.toNat n)++tl)))) (by simp (disch:=(first | omega | (simp only [List.length_set]; omega))) only [ov,hfr0,Ad,Ea,Jx,Aa7,Aka,Hn,J6,List.set_set,Cb,amL,amT,sA,sB,sC,sD,sE,sF,sG,sH,sI,sJ,sK,sL,sM,sN,sO,↓reduceIte,reduceCtorEq]; try rfl) (by first | ((repeat' first | exact Sub.refl _ | refine Sub.skip (by first | exact hfr0 _ | (simp (disch:=omega) only [Ad]; exact hfr0 _)) ?_ | refine Sub.both ?_); done) | fail) (R5 hcl ov) (AV.lives_p _ _) ⟨?_,?_⟩ ; all_goals (rw [Ex,if_neg (by assumption),if_pos h])) | trace_state
theorem Bbc:Lq Tryz.prog 194 14:=Ar2 (by kernel_rfl)
def Arz:Value:=.agg #[.int .i64 0,.int .i64 0,.int .i64 0,.int .i64 0,.int .i64 0,.int .i64 0,.int .i64 0,.int .i64 0,.bool false]
theorem Axt:∀ w,(zeroValue 196).run Tryz.prog w=.ok Arz w:=fun w=>by
  have h:(Tryz.prog.info? 196).map (fun i=>i.zero)=some (some Arz):=by kernel_rfl
  cases hi:Tryz.prog.info? 196 with
  | none=>rw [hi] at h; cases h
  | some i=>
    rw [hi] at h
    have hz:i.zero=some Arz:=by simpa using h
    simp [zeroValue,typeInfo,hi,hz]
theorem Xb:Bq Arz=.agg [i64 0,i64 0,i64 0,i64 0,i64 0,i64 0,i64 0,i64 0,bl false]:=rfl
abbrev Ajf:List AV:=[.fn (.func 119) [] [],.fn (.func 120) [] [],.fn (.func 121) [] []]
abbrev Ak2 (k:Int):AV:=.fn (.func (if k=0 then 119 else if k=1 then 120 else 121)) [] []
theorem Aot:Bj Tryz.prog 86 [] (.agg Ajf):=by
  refine A7 (v:=[]) (q:=[]) (N:=5) (rs:=[.cell 0 158]) Tryz.func86 rfl rfl rfl rfl rfl ?_
  refine Aa fun K1 hK1=>?_
  refine Ab ?_
  simp (disch:=omega) only [amL,amT,sA,sB,↓reduceIte]
  refine hK1 _ ?_
  refine Aa fun K2 hK2=>?_
  refine Ab ?_
  simp (disch:=omega) only [amL,amT,sA,sB,sE,sF,↓reduceIte,reduceCtorEq]
  refine hK2 _ ?_
  refine Ae ?_
  try simp (disch:=omega) only [Ar8,amL,amT,sB,↓reduceIte,reduceCtorEq]
  skip
theorem Zd {esz:Nat→Nat} {ea:Nat→Option Bool} {k:Int} (hz:esz 157=1) (he:ea 157=some true) (h0:0≤k) (h3:k≤2):Age esz ea (.agg Ajf) (.arr 3 157) (i64 k)=some (.pure (.agg [Ak2 k])):=by
  have hk4:k=0∨k=1∨k=2:=by omega
  simp only [Age,he,hz]
  rcases hk4 with rfl | rfl | rfl <;> rfl
theorem Bcv {v:List Liq} {tl:List AV} {s:Stp} {n:Int} {nv:Nat} {os:Nat→Option AO} {bd:Nat} (_:0≤s.kind∧s.kind≤2) (hw:Hz v) (hs:0≤s.frm∧s.frm.toNat < v.length∧s.frm < 4) (ht:0≤s.to∧s.to.toNat < v.length∧s.to < 4) (hn:0≤n∧n≤1000000) (ov:os nv=some (.cells (cW v++tl))) :
    Bt Tryz.prog bd (Ak2 s.kind) [.ptr nv 0,avS s,i64 n] os fun res os'=>res=bl (Fc v s n).2∧os'=upd os nv (some (.cells (cW (Fc v s n).1++tl))):=by
  unfold Ak2 Fc
  split
  · exact Ba4 hw hs ht hn ov
  · split
    · exact Aue hw ht hn ov
    · exact Azq hw hs hn ov
structure Wk (vs:List Ves) (ss:List Stp) (nw m:Nat) (os:Nat→Option AO):Prop where
  ow:os nw=some (.cells [.p (slV vs),.p (slS ss),.mp m])
  om:os m=some (.obj (G5 14 (T0 vs)))
theorem Ey (v:List Liq) (b:Bool):(AV.tup [avW v,bl b]).isP=true:=by
  have h:AV.isP.isPL (cW v)=true:=(J0 _).2 fun i x hx=>Rc hx
  simp only [AV.isP,AV.isP.isPL,h,Bool.and_self]
theorem Hc {P:Program} {s:St} {i j n off:Nat} {ty:TypeId} {g:Bool} {cs:List AV} {x:AV} (h1:s.t i=.ptr n off) (h2:(Ac P ty).agg=some g) (h3:s.o n=some (.cells cs)) (h4:Am g (Ac P ty).sz (cs.drop off)=some x):(Di P s [.cell i ty,.tmp j]).map D5=some (.tup [x,s.t j]):=by
  simp only [Di,G3,h1,h2,h3,h4,Option.map_some]; rfl
theorem Bgz {vs:List Ves} {ss:List Stp} {v:List Liq} {s:Stp} {n:Int} {nw m:Nat} {os:Nat→Option AO} {bd:Nat} (hW:Wk vs ss nw m os) (hv4:v.length=4) (hw:Hz v) (hvs:vs.length≤4) (hk:0≤s.kind∧s.kind≤2) (hs:0≤s.frm∧s.frm < vs.length) (ht:0≤s.to∧s.to < vs.length) (hn:0≤n∧n≤1000000) (hkd:(kD s n v).all inR=true) :
    Bt Tryz.prog bd (.fn (.func 88) [] []) [.ptr nw 0,avW v,avS s,i64 n] os fun res os'=>res=.tup [avW (doS vs v s n).1,bl (doS vs v s n).2]∧os'=os:=by
  refine Ck (v:=[]) (q:=[]) (N:=69) (rs:=[.cell 8 120,.tmp 9]) Tryz.func88 rfl (by kernel_rfl) rfl rfl (fun hcl hfree=>?_)
  have hfr0:∀ k,os (bd+k)=none:=fun k=>hfree _ (by omega)
  obtain ⟨ow,om⟩:=hW
  have hlw:=Au hfree ow
  have hlm:=Au hfree om
  have l4:(Fc v s n).1.length=4:=by rw [Ace,hv4]
  have ld:(doS vs v s n).1.length=4:=by rw [Aba,hv4]
  have hmc:Bq (T0 vs (kD s n v))=.agg (cW (doS vs v s n).1++[bl (doS vs v s n).2]):=by unfold T0; rw [Bbv,Akb]
  have hix:Age (fun e=>(Ac Tryz.prog e).sz) (fun e=>(Ac Tryz.prog e).agg) (.agg Ajf) (.arr 3 157) (i64 s.kind)=some (.pure (.agg [Ak2 s.kind])):=Zd (by simp only [amT]) (by simp only [amT]; rfl) hk.1 hk.2
  refine Aa fun K1 hK1=>?_
  refine Ab ?_
  simp (disch:=(first | assumption | omega | (simp only [List.length_set]; omega))) only [hfr0,Ad,amL,amT,sA,sB,sF,↓reduceIte,reduceCtorEq]
  refine hK1 _ ?_
  refine Aa fun K2 hK2=>?_
  refine Ab ?_
  simp (disch:=(first | assumption | omega | (simp only [List.length_set]; omega))) only [hfr0,Ad,Agc,Av4,B6,Cb,amL,amT,sA,sB,sE,sF,↓reduceIte,reduceCtorEq]
  refine hK2 _ ?_
  refine Aa fun K3 hK3=>?_
  refine Va (by kernel_rfl) (by kernel_rfl) ?_
  simp (disch:=(first | assumption | omega | (simp only [List.length_set]; omega))) only [ow,Ad,Agc,B6,amL,amT,sA,sB,sF,↓reduceIte,reduceCtorEq]
  refine Af8 rfl (by simp only [amT]) Axt rfl Vy Bbc (by simp (disch:=omega) only [Ad]; exact om) Aik (Arx hv4) hkd ?_ ?_ <;> simp (disch:=(first | assumption | omega | (simp only [List.length_set]; omega))) only [hfr0,Ad,Alp,Ayn,Xb,hmc,Cb,amL,amT,sA,sB,sF,↓reduceIte]
  all_goals
   skip
   refine hK3 _ ?_
   refine Aa fun K4 hK4=>?_
   refine Aa fun K5 hK5=>?_
   refine Ab ?_
   simp (disch:=(first | assumption | omega | (simp only [List.length_set]; omega))) only [amL,sA,↓reduceIte]
   refine hK5 _ ?_
   refine Ag rfl (fun h=>?_) (fun h=>?_)
   ·first
    | exact Bool.noConfusion h
    |skip
     try simp only [] at h
     refine Aa fun K6 hK6=>?_
     refine Ab ?_
     simp (disch:=(first | assumption | omega | (simp only [List.length_set]; omega))) only [Ad,Agc,Be9,B6,Cb,amL,amT,sA,sB,sE,sF,↓reduceIte,reduceCtorEq]
     refine hK6 _ ?_
     refine Aa fun K7 hK7=>?_
     refine Bg (by kernel_rfl) (by kernel_rfl) ?_
     simp (disch:=(first | assumption | omega | (simp only [List.length_set]; omega))) only [amL]
     repeat' first | (refine Cn (fun h=>?_) (fun h=>?_) <;> simp (disch:=(first | assumption | omega | (simp only [List.length_set]; omega))) only [h,ow,om,hfr0,Ad,Agc,Alp,Av4,Az0,Be9,Ayn,Ahj,Bci,Ap3,Axo,Bas,Acn,B6,Xb,hmc,Vz,hix,A0,Cb,Ea,Jx,amL,amT,sA,sB,sC,sD,sE,sF,sG,sH,sI,sJ,sK,sL,sM,sN,sO,↓reduceIte,reduceCtorEq]) | (refine Bo (fun h=>?_) (fun h=>?_) <;> simp (disch:=(first | assumption | omega | (simp only [List.length_set]; omega))) only [h,ow,Ad,Alp,Bci,A0,Cb,Ea,amL,amT,sA,sB,sF,sH,↓reduceIte,reduceCtorEq]) | (refine Al (by kernel_rfl) rfl (Aot) (by first | exact .inl rfl | exact .inr (.inl rfl)) ?_ ; simp (disch:=(first | assumption | omega | (simp only [List.length_set]; omega))) only [Ad,Vz,hix,amL,amT,sA,sB,sF,↓reduceIte,reduceCtorEq]) | (refine A6 [(0,.ptr nw 0),(3,i64 n),(5,.ptr (bd+5) 0),(6,.ptr (bd+6) 0),(8,.ptr (bd+8) 0),(10,.ptr (bd+10) 0),(11,.ptr (bd+11) 0)] (by decide) (Bcv (v:=v) (tl:=[bl false]) (nv:=bd+11) (bd:=bd+69) hk hw ⟨hs.1,by omega,by omega⟩ ⟨ht.1,by omega,by omega⟩ hn (by first | (simp (disch:=(first | assumption | omega | (simp only [List.length_set]; omega))) only [amL]; done) | fail)) (fun q hq=>by simp (disch:=omega) only [Ad]; exact hfree q (by omega)) (Nat.le_add_right _ _) (fun res os2 hR hcl2 hlv2=>?_) ; obtain ⟨rfl,rfl⟩:=hR ; simp (disch:=(first | assumption | omega | (simp only [List.length_set]; omega))) only [ow,Ad,Cb,amL,sA,sF,↓reduceIte,reduceCtorEq])
     all_goals
      skip
      refine hK7 _ ?_
      refine Bg (by kernel_rfl) (by kernel_rfl) ?_
      simp (disch:=(first | assumption | omega | (simp only [List.length_set]; omega))) only [ow,Ad,Agc,Alp,Axo,B6,amL,amT,sA,sB,sF,↓reduceIte,reduceCtorEq]
      all_goals (refine Ahw (k:=194) (e:=196) (by simp only [amT]) Bbc (by simp (disch:=omega) only [Ad]; exact om) Aik (Arx hv4) hkd Vy (by rw [hmc]; first | (simp_all [doS]; done) | (omega)) ?_ ; simp (disch:=(first | assumption | omega | (simp only [List.length_set]; omega))) only [amL])
      all_goals
       skip
       refine hK4 _ ?_
       refine Aa fun K8 hK8=>?_
       refine Afr [.sto [11] 8,.sto [67] 8] (by kernel_rfl) (by kernel_rfl) ?_
       simp (disch:=(first | assumption | omega | (simp only [List.length_set]; omega))) only [Ad,Agc,Alp,Ahj,Ap3,Acn,amL,amT,sA,sB,sE,sF,↓reduceIte,reduceCtorEq]
       refine ⟨by simp [Cf.ok,Tk,T,AV.known,AV.clean],?_⟩
       all_goals
        skip
        refine hK8 _ ?_
        refine Ae ?_
        try simp (disch:=(first | assumption | omega | (simp only [List.length_set]; omega))) only [amL]
        all_goals (refine Ba (res:=.tup [avW (doS vs v s n).1,bl (doS vs v s n).2]) os ?_ (by first | ((repeat' first | exact Sub.refl _ | refine Sub.skip (by first | exact hfr0 _ | (simp (disch:=omega) only [Ad]; exact hfr0 _)) ?_ | refine Sub.both ?_); done) | fail) hcl (Bd _ (Ey _ _)) ⟨rfl,rfl⟩ ; refine (Hc (n:=bd+8) (off:=0) (g:=true) (cs:=cW (doS vs v s n).1) (x:=avW (doS vs v s n).1) (by simp (disch:=(first | assumption | omega | (simp only [List.length_set]; omega))) only [amL,sF,↓reduceIte,reduceCtorEq]) (by simp only [amT]; rfl) (by simp (disch:=(first | assumption | omega | (simp only [List.length_set]; omega))) only [amL]; try rfl) (by simp only [amT,List.drop_zero]; exact Yo ld)).trans ?_ ; simp (disch:=(first | assumption | omega | (simp only [List.length_set]; omega))) only [amL,↓reduceIte] ; all_goals first | rfl | (simp_all [doS]; done) | (omega))
   ·first
    | exact Bool.noConfusion h
    |skip
     try simp only [] at h
     refine Ah ?_
     refine hK4 _ ?_
     refine Aa fun K9 hK9=>?_
     refine Afr [.sto [11] 8,.sto [67] 8] (by kernel_rfl) (by kernel_rfl) ?_
     simp (disch:=(first | assumption | omega | (simp only [List.length_set]; omega))) only [Ad,Agc,Alp,Ahj,Ap3,Acn,amL,amT,sA,sB,sE,sF,↓reduceIte,reduceCtorEq]
     refine ⟨by simp [Cf.ok,Tk,T,AV.known,AV.clean],?_⟩
     all_goals
      skip
      refine hK9 _ ?_
      refine Ae ?_
      try simp (disch:=(first | assumption | omega | (simp only [List.length_set]; omega))) only [amL]
      all_goals (refine Ba (res:=.tup [avW (doS vs v s n).1,bl (doS vs v s n).2]) os ?_ (by first | ((repeat' first | exact Sub.refl _ | refine Sub.skip (by first | exact hfr0 _ | (simp (disch:=omega) only [Ad]; exact hfr0 _)) ?_ | refine Sub.both ?_); done) | fail) hcl (Bd _ (Ey _ _)) ⟨rfl,rfl⟩ ; refine (Hc (n:=bd+8) (off:=0) (g:=true) (cs:=cW (doS vs v s n).1) (x:=avW (doS vs v s n).1) (by simp (disch:=(first | assumption | omega | (simp only [List.length_set]; omega))) only [amL,sF,↓reduceIte]) (by simp only [amT]; rfl) (by simp (disch:=(first | assumption | omega | (simp only [List.length_set]; omega))) only [amL]; try rfl) (by simp only [amT,List.drop_zero]; exact Yo ld)).trans ?_ ; simp (disch:=(first | assumption | omega | (simp only [List.length_set]; omega))) only [amL,↓reduceIte] ; all_goals first | rfl | (simp_all [doS]; done) | (omega))
theorem Gy {os:Nat→Option AO} {n:Nat} {cs:List AV} (hcl:(Hp os).closed) (h:∀ x ∈ cs,x.isP=true):(Hp (upd os n (some (.cells cs)))).closed:=
  De hcl (AO.lives_cells.2 fun _ x hx=>Bd _ (h x (List.mem_of_getElem? hx)))
theorem Fa {os:Nat→Option AO} {n:Nat} {v:List Liq} (hcl:(Hp os).closed):(Hp (upd os n (some (.cells (cW v))))).closed:=Gy hcl fun x hx=>by
  obtain ⟨i,hi⟩:=List.mem_iff_getElem?.1 hx
  exact Rc hi
theorem Zt {vs:List Ves} {k:Nat} (h:k < vs.length):vs.drop k=vs.getD k default :: vs.drop (k+1):=Adr default h
theorem Vi {vs:List Ves} {gs ds:List Int} {k:Nat} {v:List Liq} {R:List Liq × Bool} (h:k < vs.length) (h2:(vs.getD k default).room < gs.getD k 0) (hr:Hf (vs.drop k) gs ds k v=R):R=(v,false):=by
  rw [Zt h] at hr; unfold Hf at hr; rw [if_pos h2] at hr; exact hr.symm
theorem Agr {vs:List Ves} {gs ds:List Int} {k:Nat} {v:List Liq} {R:List Liq × Bool} (h:k < vs.length) (h2:¬ (vs.getD k default).room < gs.getD k 0) (hr:Hf (vs.drop k) gs ds k v=R):Hf (vs.drop (k+1)) gs ds (k+1) (v.set k ⟨gs.getD k 0,gs.getD k 0 * ds.getD k 0⟩)=R:=by
  rw [Zt h] at hr; unfold Hf at hr; rw [if_neg h2] at hr; exact hr
theorem Aau {vs:List Ves} {gs ds:List Int} {k:Nat} {v:List Liq} {R:List Liq × Bool} (h:vs.length≤k) (hr:Hf (vs.drop k) gs ds k v=R):R=(v,true):=by
  rw [List.drop_of_length_le h] at hr; exact hr.symm
theorem Ava {a b:Int} (h1:0≤a∧a≤100000) (h2:0≤b∧b≤100000):0≤a * b∧a * b≤10000000000:=by
  have e1:=Int.mul_nonneg h1.1 h2.1
  have e2:=Int.mul_le_mul h1.2 h2.2 h2.1 (by omega)
  omega
theorem Ed {b:Cx} {os:Nat→Option AO} {bd:Nat} :
    Bt Tryz.prog bd (.fn (.func 60) [] []) [avB b] os fun res os'=>res=.ptr (bd+6) 0∧os'=upd (upd os (bd+4) (some (.obj (G5 14 (T0 b.vs))))) (bd+6) (some (.cells [.p (slV b.vs),.p (slS b.ss),.mp (bd+4)])):=by
  refine Ck (v:=[]) (q:=[]) (N:=7) (rs:=[.tmp 2]) Tryz.func60 rfl (by kernel_rfl) rfl rfl (fun hcl hfree=>?_)
  have hfr0:∀ k,os (bd+k)=none:=fun k=>hfree _ (by omega)
  refine Aa fun K1 hK1=>?_
  refine Ab ?_
  simp (disch:=omega) only [hfr0,amL,sA,↓reduceIte]
  refine hK1 _ ?_
  refine Aa fun K2 hK2=>?_
  refine Ab ?_
  simp (disch:=omega) only [amL,amT,sA,sB,sF,↓reduceIte]
  refine Afv 14 (T0 b.vs) (by decide) (by simp (disch:=omega) only [hfr0,Ad]) ?_
  simp (disch:=omega) only [hfr0,Ad,amL,amT,sA,sB,sE,sF,↓reduceIte]
  all_goals
   skip
   refine hK2 _ ?_
   refine Ae ?_
   try simp (disch:=omega) only [amL]
   refine Ba (res:=.ptr (bd+6) 0) (upd (upd os (bd+4) (some (.obj (G5 14 (T0 b.vs))))) (bd+6) (some (.cells [.p (slV b.vs),.p (slS b.ss),.mp (bd+4)]))) rfl (by first | ((repeat' first | exact Sub.refl _ | refine Sub.skip (by first | exact hfr0 _ | (simp (disch:=omega) only [Ad]; exact hfr0 _)) ?_ | refine Sub.both ?_); done) | fail) (De (De hcl (AO.lives_obj _ _)) ?_) ?_ ⟨rfl,rfl⟩
   · rw [En]; simp (disch:=omega) only [Dd,C7,U3,T8,Ad,Bp,Option.isSome_some,and_self]
   · rw [Dy]; simp only [Bp,Option.isSome_some]
theorem Aj5 {vs:List Ves} {ss:List Stp} {gs ds:List Int} {nw m:Nat} {os:Nat→Option AO} {bd:Nat} (hW:Wk vs ss nw m os) (hvs:vs.length≤4) (hg1:gs.length=vs.length) (hd1:ds.length=vs.length) (hg:∀ k,0≤gs.getD k 0∧gs.getD k 0≤100000) (hd:∀ k,0≤ds.getD k 0∧ds.getD k 0≤100000) :
    Bt Tryz.prog bd (.fn (.func 101) [] []) [.ptr nw 0,isl gs,isl ds] os fun res os'=>res=.tup [avW (Pa vs gs ds).1,bl (Pa vs gs ds).2]∧os'=os:=by
  refine Ck (v:=[]) (q:=[]) (N:=47) (rs:=[.cell 6 120,.tmp 7]) Tryz.func101 rfl (by kernel_rfl) rfl rfl (fun hcl hfree=>?_)
  have hfr0:∀ k,os (bd+k)=none:=fun k=>hfree _ (by omega)
  obtain ⟨ow,om⟩:=hW
  have hlw:=Au hfree ow
  refine Aa fun K1 hK1=>?_
  refine Ab ?_
  simp (disch:=(first | assumption | omega | (simp only [List.length_set]; omega))) only [hfr0,amL,amT,sA,sB,↓reduceIte]
  refine hK1 _ ?_
  refine Aa fun K2 hK2=>?_
  refine Aa fun K3 hK3=>?_
  refine Ab ?_
  simp (disch:=(first | assumption | omega | (simp only [List.length_set]; omega))) only [ow,Ad,amL,amT,sA,↓reduceIte,reduceCtorEq]
  refine hK3 _ ?_
  refine Ak ?_
  skip
  refine A5 (α:=Nat × List Liq) (fun x=>⟨T [(0,.ptr nw 0),(1,isl gs),(2,isl ds),(6,.ptr (bd+6) 0),(14,.p (slV vs)),(15,i64 vs.length),(16,i64 (x.1:Int))],upd os (bd+6) (some (.cells (cW x.2)))⟩) (fun x=>vs.length - x.1) (fun x=>x.1≤vs.length∧x.2.length=4∧Hf (vs.drop x.1) gs ds x.1 x.2=Pa vs gs ds) (0,v0) ?_ ?_ (fun x hx4 K4 hK4=>?_)
  · exact ⟨by simp,rfl,rfl⟩
  · refine Gx ?_ ?_ ?_ ?_ <;> (try simp (disch:=(first | assumption | omega | (simp only [List.length_set]; omega))) only [ow,Ad,amL,sF,↓reduceIte,reduceCtorEq]); all_goals first | rfl | exact Fa hcl | exact (by first | ((repeat' first | exact Sub.refl _ | refine Sub.skip (by first | exact hfr0 _ | (simp (disch:=omega) only [Ad]; exact hfr0 _)) ?_ | refine Sub.both ?_); done) | fail) | trace_state
  obtain ⟨k,v⟩:=x; dsimp only at hx4 ⊢; obtain ⟨hk,hv4,hr⟩:=hx4; have hgk:=hg k; have hdk:=hd k; have hmu:=Ava hgk hdk
  refine Aa fun K5 hK5=>?_
  refine Ab ?_
  simp (disch:=(first | assumption | omega | (simp only [List.length_set]; omega))) only [amL,amT,sA,sF,↓reduceIte,reduceCtorEq]
  refine hK5 _ ?_
  refine Aa fun K6 hK6=>?_
  refine Ag rfl (fun h=>?_) (fun h=>?_)
  ·first
   | exact Bool.noConfusion h
   |skip
    try simp only [decide_eq_true_eq] at h
    refine Ah ?_
    refine hK6 _ ?_
    refine Aa fun K7 hK7=>?_
    refine Ak ?_
    refine Aa fun K8 hK8=>?_
    refine Ab ?_
    simp (disch:=(first | assumption | omega | (simp only [List.length_set]; omega))) only [hfr0,Ad,Cb,A0,amL,amT,sA,sB,sF,↓reduceIte,reduceCtorEq]
    refine hK8 _ ?_
    refine Aa fun K9 hK9=>?_
    refine Aa fun K10 hK10=>?_
    refine Bg (by kernel_rfl) (by kernel_rfl) ?_
    simp (disch:=(first | assumption | omega | (simp only [List.length_set]; omega))) only [amL,amT,sA,sF,↓reduceIte,reduceCtorEq]
    refine hK10 _ ?_
    refine Ag rfl (fun h=>?_) (fun h=>?_)
    ·first
     | exact Bool.noConfusion h
     |skip
      try simp only [decide_eq_true_eq] at h
      refine Aa fun K11 hK11=>?_
      refine Ab ?_
      simp (disch:=(first | assumption | omega | (simp only [List.length_set]; omega))) only [Ad,B6,A2,Cr,amL,amT,sA,sF,↓reduceIte,reduceCtorEq]
      refine hK11 _ ?_
      refine Ae ?_
      try simp (disch:=(first | assumption | omega | (simp only [List.length_set]; omega))) only [amL]
      all_goals ((first | (have e:=Vi (by omega) (by assumption) hr) | (have e:=Aau (by omega) hr)) ; rw [e] ; refine Ba (res:=.tup [avW v,bl _]) os ?_ (by first | ((repeat' first | exact Sub.refl _ | refine Sub.skip (by first | exact hfr0 _ | (simp (disch:=omega) only [Ad]; exact hfr0 _)) ?_ | refine Sub.both ?_); done) | fail) hcl (Bd _ (Ey _ _)) ⟨rfl,rfl⟩ ; refine (Hc (n:=bd+6) (off:=0) (g:=true) (cs:=cW v) (x:=avW v) (by simp (disch:=(first | assumption | omega | (simp only [List.length_set]; omega))) only [amL,sF,↓reduceIte,reduceCtorEq]) (by simp only [amT]; rfl) (by simp (disch:=(first | assumption | omega | (simp only [List.length_set]; omega))) only [amL]; try rfl) (by simp only [amT,List.drop_zero]; exact Yo hv4)).trans ?_ ; simp (disch:=(first | assumption | omega | (simp only [List.length_set]; omega))) only [amL,↓reduceIte] ; all_goals first | rfl | (omega))
    ·first
     | exact Bool.noConfusion h
     |skip
      try simp only [decide_eq_false_iff_not] at h
      refine Ah ?_
      refine hK9 _ ?_
      refine Bg (by kernel_rfl) (by kernel_rfl) ?_
      simp (disch:=(first | assumption | omega | (simp only [List.length_set]; omega))) only [Ad,Beh,Bd6,List.set_set,J6,A2,amL,amT,sA,sB,sE,sF,sH,↓reduceIte,reduceCtorEq]
      refine hK7 _ ?_
      refine Ab ?_
      simp (disch:=(first | assumption | omega | (simp only [List.length_set]; omega))) only [amL,amT,sA,sF,↓reduceIte,reduceCtorEq]
      refine hK4 (k+1,v.set k ⟨gs.getD k 0,gs.getD k 0 * ds.getD k 0⟩) _ ?_ ?_ (Gx ?_ ?_ ?_ ?_)
      all_goals (try simp (disch:=(first | assumption | omega | (simp only [List.length_set]; omega))) only [ow,Ad,amL,sF,↓reduceIte,reduceCtorEq])
      all_goals first | omega | exact ⟨by omega,by simp [hv4],Agr (by omega) (by omega) hr⟩ | exact (by first | ((repeat' first | exact Sub.refl _ | refine Sub.skip (by first | exact hfr0 _ | (simp (disch:=omega) only [Ad]; exact hfr0 _)) ?_ | refine Sub.both ?_); done) | fail) | exact Fa hcl | trace_state
  ·first
   | exact Bool.noConfusion h
   |skip
    try simp only [decide_eq_false_iff_not] at h
    refine Bc ?_
    refine hK2 _ ?_
    refine Aa fun K12 hK12=>?_
    refine Ab ?_
    simp (disch:=(first | assumption | omega | (simp only [List.length_set]; omega))) only [Cb,B6,A2,Cr,amL,amT,sA,sF,↓reduceIte,reduceCtorEq]
    refine hK12 _ ?_
    refine Ae ?_
    try simp (disch:=(first | assumption | omega | (simp only [List.length_set]; omega))) only [amL]
    all_goals ((first | (have e:=Vi (by omega) (by assumption) hr) | (have e:=Aau (by omega) hr)) ; rw [e] ; refine Ba (res:=.tup [avW v,bl _]) os ?_ (by first | ((repeat' first | exact Sub.refl _ | refine Sub.skip (by first | exact hfr0 _ | (simp (disch:=omega) only [Ad]; exact hfr0 _)) ?_ | refine Sub.both ?_); done) | fail) hcl (Bd _ (Ey _ _)) ⟨rfl,rfl⟩ ; refine (Hc (n:=bd+6) (off:=0) (g:=true) (cs:=cW v) (x:=avW v) (by simp (disch:=(first | assumption | omega | (simp only [List.length_set]; omega))) only [amL,sF,↓reduceIte,reduceCtorEq]) (by simp only [amT]; rfl) (by simp (disch:=(first | assumption | omega | (simp only [List.length_set]; omega))) only [amL]; try rfl) (by simp only [amT,List.drop_zero]; exact Yo hv4)).trans ?_ ; simp (disch:=(first | assumption | omega | (simp only [List.length_set]; omega))) only [amL,↓reduceIte] ; all_goals first | rfl | (omega))
theorem Bcu {b:Cx} {s:Stp} {n:Int} {v:List Liq} (hs:Dm b.vs.length s=true) (hb:b.vs.length≤4) (hn:0≤n∧n≤60) (hv:OkV v):(kD s n v).all inR=true:=by
  obtain ⟨h1,h2,h3,_,h5⟩:=Cd hs
  have h6:=Co h5
  refine Bfq ⟨?_,?_,?_,?_,?_⟩ ?_ hv.small <;> (simp only [inR,Bool.and_eq_true,decide_eq_true_eq]; omega)
theorem Aif {os:Nat→Option AO} {n1 n2 n3:Nat} {t:Tru} {v w:List Liq} (hcl:(Hp os).closed):(Hp (upd (upd (upd os n1 (some (.cells (cT t)))) n2 (some (.cells (cW v)))) n3 (some (.cells (cW w))))).closed:=
  Fa (Fa (Gy hcl fun x hx=>by simp at hx; rcases hx with rfl | rfl | rfl <;> rfl))
theorem Fi {b:Cx} {t:Tru} {nw m:Nat} {os:Nat→Option AO} {bd:Nat} (hW:Wk b.vs b.ss nw m os) (hv:Ja b) (ht:C1 b t=true) :
    Bt Tryz.prog bd (.fn (.func 61) [] []) [.ptr nw 0,avT t] os fun res os'=>res=.tup [avW (Ns b t).1,bl (Ns b t).2]∧os'=os:=by
  refine Ck (v:=[101,88]) (q:=[]) (N:=48) (rs:=[.cell 4 120,.tmp 5]) Tryz.func61 rfl (by kernel_rfl) rfl rfl (fun hcl hfree=>?_)
  have hfr0:∀ k,os (bd+k)=none:=fun k=>hfree _ (by omega)
  have hlw:=Au hfree hW.ow
  have hlm:=Au hfree hW.om
  have ow:=hW.ow
  have om:=hW.om
  obtain ⟨s1,s2,s3⟩:=F3 hv ht
  obtain ⟨p1,p2,p3,p4,p5⟩:=Cg ht
  have hb0:=Aav hv ht
  have hnv:=hv.nv
  have hns:=hv.ns
  have bl4:=hb0.len
  refine Aa fun K1 hK1=>?_
  refine Ab ?_
  simp (disch:=(first | assumption | omega | (simp only [List.length_set]; omega))) only [hfr0,Ad,amL,amT,sA,sB,↓reduceIte,reduceCtorEq]
  refine hK1 _ ?_
  refine Aa fun K2 hK2=>?_
  refine Ab ?_
  simp (disch:=(first | assumption | omega | (simp only [List.length_set]; omega))) only [Ad,amL,amT,sA,sF,sG,↓reduceIte,reduceCtorEq]
  repeat' first | (refine Cv (bd:=bd+48) (by decide) (Aj5 (ss:=b.ss) (m:=m) ⟨by simp (disch:=omega) only [Ad]; exact ow,by simp (disch:=omega) only [Ad]; exact om⟩ hnv p1 p2 (fun k=>by have:=s1 k; omega) (fun k=>by have:=s2 k; omega)) (fun q hq=>by simp (disch:=omega) only [Ad]; exact hfree q (by omega)) (Nat.le_add_right _ _) (Ey _ _) ?_ ; simp (disch:=(first | assumption | omega | (simp only [List.length_set]; omega))) only [hfr0,Ad,Cb,Ahj,A2,amL,amT,sA,sB,sF,↓reduceIte])
  refine hK2 _ ?_
  refine Aa fun K3 hK3=>?_
  refine Aa fun K4 hK4=>?_
  refine Ab ?_
  simp (disch:=(first | assumption | omega | (simp only [List.length_set]; omega))) only [ow,Ad,amL,amT,sA,↓reduceIte,reduceCtorEq]
  refine hK4 _ ?_
  refine Ak ?_
  skip
  refine A5 (α:=Nat × (List Liq × Bool)) (fun x=>⟨T [(0,.ptr nw 0),(3,.ptr (bd+3) 0),(4,.ptr (bd+4) 0),(6,.ptr (bd+6) 0),(7,bl x.2.2),(23,.p (slS b.ss)),(24,i64 b.ss.length),(25,i64 (x.1:Int))],upd (upd (upd os (bd+3) (some (.cells (cT t)))) (bd+4) (some (.cells (cW v0)))) (bd+6) (some (.cells (cW x.2.1)))⟩) (fun x=>b.ss.length - x.1) (fun x=>x.1≤b.ss.length∧x.2.1.length=4∧(x.2.2=true→OkV x.2.1)∧Lw b.vs t.m (b.ss.drop x.1) x.1 x.2=Ns b t) (0,Pa b.vs t.g t.d) ?_ ?_ (fun x hx5 K5 hK5=>?_)
  · exact ⟨by simp,bl4,fun _=>hb0,rfl⟩
  · refine Gx ?_ ?_ ?_ ?_ <;> (try simp (disch:=(first | assumption | omega | (simp only [List.length_set]; omega))) only [ow,Ad,amL,sF,↓reduceIte,reduceCtorEq]); all_goals first | rfl | exact (by first | ((repeat' first | exact Sub.refl _ | refine Sub.skip (by first | exact hfr0 _ | (simp (disch:=omega) only [Ad]; exact hfr0 _)) ?_ | refine Sub.both ?_); done) | fail) | exact Aif hcl | (omega)
  obtain ⟨k,v,is⟩:=x; dsimp only at hx5 ⊢; obtain ⟨hk,hr4,ho,hr⟩:=hx5
  refine Aa fun K6 hK6=>?_
  refine Ab ?_
  simp (disch:=(first | assumption | omega | (simp only [List.length_set]; omega))) only [amL,amT,sA,sF,↓reduceIte,reduceCtorEq]
  refine hK6 _ ?_
  refine Aa fun K7 hK7=>?_
  refine Ag rfl (fun h=>?_) (fun h=>?_)
  ·first
   | exact Bool.noConfusion h
   |skip
    try simp only [decide_eq_true_eq] at h
    refine Ah ?_
    refine hK7 _ ?_
    refine Aa fun K8 hK8=>?_
    refine Ak ?_
    refine Aa fun K9 hK9=>?_
    refine Ab ?_
    simp (disch:=(first | assumption | omega | (simp only [List.length_set]; omega))) only [hfr0,Ad,Cb,Eu,amL,amT,sA,sB,sF,↓reduceIte,reduceCtorEq]
    refine hK9 _ ?_
    refine Aa fun K10 hK10=>?_
    refine Aa fun K11 hK11=>?_
    refine Ab ?_
    simp (disch:=(first | assumption | omega | (simp only [List.length_set]; omega))) only [amL,sA,sF,↓reduceIte,reduceCtorEq]
    refine hK11 _ ?_
    refine Ag rfl (fun h=>?_) (fun h=>?_)
    ·first
     | exact Bool.noConfusion h
     |skip
      try simp only [Bool.not_eq_true'] at h
      refine Aa fun K12 hK12=>?_
      refine Ab ?_
      simp (disch:=(first | assumption | omega | (simp only [List.length_set]; omega))) only [Ad,B6,A2,Cr,amL,amT,sA,sB,sC,sF,↓reduceIte,reduceCtorEq]
      refine hK12 _ ?_
      refine Ae ?_
      try simp (disch:=(first | assumption | omega | (simp only [List.length_set]; omega))) only [amL]
      all_goals ((first | (have e:=Xa (by omega) (by assumption) hr) | (have e:=Zo (by omega) hr)) ; rw [e] ; refine Ba (res:=.tup [avW v,bl _]) os ?_ (by first | ((repeat' first | exact Sub.refl _ | refine Sub.skip (by first | exact hfr0 _ | (simp (disch:=omega) only [Ad]; exact hfr0 _)) ?_ | refine Sub.both ?_); done) | fail) hcl (Bd _ (Ey _ _)) ⟨rfl,rfl⟩ ; refine (Hc (n:=bd+4) (off:=0) (g:=true) (cs:=cW v) (x:=avW v) (by simp (disch:=(first | assumption | omega | (simp only [List.length_set]; omega))) only [amL,sF,↓reduceIte,reduceCtorEq]) (by simp only [amT]; rfl) (by simp (disch:=(first | assumption | omega | (simp only [List.length_set]; omega))) only [amL]; try rfl) (by simp only [amT,List.drop_zero]; exact Yo hr4)).trans ?_ ; simp (disch:=(first | assumption | omega | (simp only [List.length_set]; omega))) only [amL,↓reduceIte] ; all_goals first | rfl | (omega))
    ·first
     | exact Bool.noConfusion h
     |skip
      try simp only [Bool.not_eq_false'] at h
      refine Ah ?_
      refine hK10 _ ?_
      refine Va (by kernel_rfl) (by kernel_rfl) ?_
      have his:is=true:=by assumption
      have hov:=ho his
      have hst:=hv.stp (k:=k) (by omega)
      obtain ⟨q1,q2,q3,_⟩:=Cd hst
      have hmk:=s3 k
      have hd4:(doS b.vs v (b.ss.getD k default) (t.m.getD k 0)).1.length=4:=by rw [Aba]; exact hr4
      simp (disch:=(first | assumption | omega | (simp only [List.length_set]; omega))) only [Ad,Be,B6,A2,amL,amT,sA,sB,sF,sG,↓reduceIte,reduceCtorEq]
      repeat' first | (refine Cv (bd:=bd+48) (by decide) (Bgz (ss:=b.ss) (m:=m) (s:=b.ss.getD k default) ⟨by simp (disch:=omega) only [Ad]; exact ow,by simp (disch:=omega) only [Ad]; exact om⟩ hr4 hov.small hnv q1 ⟨q2.1,by omega⟩ ⟨q3.1,by omega⟩ ⟨hmk.1,by omega⟩ (Bcu hst hnv hmk hov)) (fun q hq=>by simp (disch:=omega) only [Ad]; exact hfree q (by omega)) (Nat.le_add_right _ _) (Ey _ _) ?_ ; simp (disch:=(first | assumption | omega | (simp only [List.length_set]; omega))) only [Ad,A2,Cr,amL,amT,sA,sF,↓reduceIte,reduceCtorEq])
      refine hK8 _ ?_
      refine Ab ?_
      simp (disch:=(first | assumption | omega | (simp only [List.length_set]; omega))) only [amL,amT,sA,sF,↓reduceIte,reduceCtorEq]
      refine hK5 (k+1,doS b.vs v (b.ss.getD k default) (t.m.getD k 0)) _ ?_ ?_ (Gx ?_ ?_ ?_ ?_)
      all_goals (try simp (disch:=(first | assumption | omega | (simp only [List.length_set]; omega))) only [ow,Ad,amL,sF,↓reduceIte,reduceCtorEq])
      all_goals first | omega | exact ⟨by omega,by rw [Aba]; exact hr4,fun hd=>Ajk hov hnv hv.v hst hmk.1 hd,Af6 (by omega) his hr⟩ | exact (by first | ((repeat' first | exact Sub.refl _ | refine Sub.skip (by first | exact hfr0 _ | (simp (disch:=omega) only [Ad]; exact hfr0 _)) ?_ | refine Sub.both ?_); done) | fail) | exact Aif hcl | (omega)
  ·first
   | exact Bool.noConfusion h
   |skip
    try simp only [decide_eq_false_iff_not] at h
    refine Bc ?_
    refine hK3 _ ?_
    refine Aa fun K13 hK13=>?_
    refine Ab ?_
    simp (disch:=(first | assumption | omega | (simp only [List.length_set]; omega))) only [Ad,B6,A2,Cr,amL,amT,sA,sB,sC,sF,↓reduceIte,reduceCtorEq]
    refine hK13 _ ?_
    refine Ae ?_
    try simp (disch:=(first | assumption | omega | (simp only [List.length_set]; omega))) only [amL]
    all_goals ((first | (have e:=Xa (by omega) (by assumption) hr) | (have e:=Zo (by omega) hr)) ; rw [e] ; refine Ba (res:=.tup [avW v,bl _]) os ?_ (by first | ((repeat' first | exact Sub.refl _ | refine Sub.skip (by first | exact hfr0 _ | (simp (disch:=omega) only [Ad]; exact hfr0 _)) ?_ | refine Sub.both ?_); done) | fail) hcl (Bd _ (Ey _ _)) ⟨rfl,rfl⟩ ; refine (Hc (n:=bd+4) (off:=0) (g:=true) (cs:=cW v) (x:=avW v) (by simp (disch:=(first | assumption | omega | (simp only [List.length_set]; omega))) only [amL,sF,↓reduceIte,reduceCtorEq]) (by simp only [amT]; rfl) (by simp (disch:=(first | assumption | omega | (simp only [List.length_set]; omega))) only [amL]; try rfl) (by simp only [amT,List.drop_zero]; exact Yo hr4)).trans ?_ ; simp (disch:=(first | assumption | omega | (simp only [List.length_set]; omega))) only [amL,↓reduceIte] ; all_goals first | rfl | (omega))
theorem Bbo (n:Nat) (hn:n≤1000000):Ki Tryz.prog 100 [Dk,i64 (n:Int)] 1 []:=by
  refine L3 (v:=[]) (q:=[]) (N:=27) (i:=4) Tryz.func100 rfl rfl rfl rfl ?_
  refine Aa fun K1 hK1=>?_
  refine Ab ?_
  simp (disch:=omega) only [amL,sA,sB]
  refine hK1 _ ?_
  refine Aa fun K2 hK2=>?_
  refine Aa fun K3 hK3=>?_
  refine Ab ?_
  simp (disch:=omega) only [amL,amT,sA,sF,↓reduceIte,reduceCtorEq]
  refine hK3 _ ?_
  refine Ag rfl (fun h=>?_) (fun h=>?_)
  ·first
   | exact Bool.noConfusion h
   |skip
    try simp only [Bool.not_eq_true',decide_eq_true_eq,decide_eq_false_iff_not,Bool.and_eq_true,Bool.not_eq_false',Bool.not_not,decide_not,Bool.not_true,Bool.not_false] at h
    exfalso; omega
  ·first
   | exact Bool.noConfusion h
   |skip
    try simp only [decide_eq_false_iff_not] at h
    refine Ah ?_
    refine hK2 _ ?_
    refine Aa fun K4 hK4=>?_
    refine Aa fun K5 hK5=>?_
    refine Dr ?_
    refine K0 ?_
    simp (disch:=omega) only [amL,sA,sF,↓reduceIte,reduceCtorEq]
    refine K0 ?_
    simp (disch:=omega) only [amL,sA,↓reduceIte,reduceCtorEq]
    refine AL.step (Sj (t:=26) (e:=3) rfl (fun k hk=>by cases hk; decide) (by simp only [amT]) rfl ?_)
    refine D3 ?_
    simp (disch:=omega) only [Int.sub_zero,Int.sub_self,amL,amT,sA,sF,↓reduceIte,reduceCtorEq]
    refine hK5 _ ?_
    refine Aa fun K6 hK6=>?_
    refine Ab ?_
    simp (disch:=omega) only [amL,amT,sA,↓reduceIte]
    refine hK6 _ ?_
    refine Ag rfl (fun h=>?_) (fun h=>?_)
    ·first
     | exact Bool.noConfusion h
     |skip
      try simp only [decide_eq_true_eq] at h
      refine Dr ?_
      refine K0 ?_
      simp (disch:=omega) only [amL,sA,↓reduceIte,reduceCtorEq]
      refine K0 ?_
      simp (disch:=omega) only [amL,sA,↓reduceIte,reduceCtorEq]
      refine AL.step (Sj (t:=26) (e:=3) rfl (fun k hk=>by cases hk; decide) (by simp only [amT]) rfl ?_)
      refine AL.step (V9 (t:=26) (e:=3) rfl (fun k hk=>by cases hk; decide) (by simp only [amT]) (by simp only [amT]; rfl) rfl rfl ?_)
      refine K0 ?_
      simp (disch:=omega) only [amL,sA,sF,↓reduceIte]
      refine AL.step (Yg (t:=26) (t':=3) (e:=3) (k:=.i64) (n:=n) (dk:=22) rfl rfl (by decide) rfl (by simp only [amT]) (by simp only [amT]) (by simp only [amT]; rfl) (by simp only [amT]; rfl) (by simp only [amT]; decide) (by simp only [amT]; rfl) rfl rfl (by omega) hn (by simp only [amT]; omega) ?_)
      refine K0 ?_
      simp (disch:=omega) only [amL,amT,sA,↓reduceIte,reduceCtorEq]
      refine K0 ?_
      simp (disch:=omega) only [amL,amT,sA,↓reduceIte]
      refine AL.step (Um (t:=26) (e:=3) (n:=22) (len:=n) (dk:=25) rfl rfl (by decide) (by simp only [amT]) (by simp only [amT]; rfl) rfl (by omega) rfl rfl rfl ?_)
      refine D3 ?_
      simp (disch:=omega) only [amL,sA,↓reduceIte]
      refine hK4 _ ?_
      refine Aa fun K7 hK7=>?_
      refine Ab ?_
      simp (disch:=omega) only [amL,sA,↓reduceIte]
      refine hK7 _ ?_
      refine Ae ?_
      try simp (disch:=omega) only [Ep,amL,↓reduceIte]
      all_goals rfl
    ·first
     | exact Bool.noConfusion h
     |skip
      try simp only [decide_eq_false_iff_not] at h
      refine Ah ?_
      refine hK4 _ ?_
      refine Aa fun K8 hK8=>?_
      refine Ab ?_
      simp (disch:=omega) only [amL,sA,↓reduceIte,reduceCtorEq]
      refine hK8 _ ?_
      refine Ae ?_
      try simp (disch:=omega) only [Ep,amL,↓reduceIte]
      all_goals rfl
abbrev Amy (t:List Int):List PV:=[.sl (t.map Jj)]
theorem Zy {l:List (List Int)} {k:Nat} (h:k < l.length):(l.map Amy).getD k []=Amy (l.getD k []):=C4 _ _ _ h
theorem Aam {l:List (List Int)} {k:Nat} (h:k < l.length):(l.take (k+1)).flatten=(l.take k).flatten++l.getD k []:=by
  have e:l.take (k+1)=l.take k++[l.getD k []]:=by
    rw [List.take_add_one,List.getElem?_eq_getElem h]; simp [List.getD,h]
  rw [e,List.flatten_append]; simp
theorem Ut {l:List (List Int)} (k:Nat):(l.take k).flatten.length≤l.flatten.length:=by
  have:l.flatten=(l.take k).flatten++(l.drop k).flatten:=by rw [← List.flatten_append,List.take_append_drop]
  rw [this,List.length_append]; omega
theorem Arv (l:List Int):((l.map Jj).all fun c=>decide (c.length=1))=true:=by
  rw [List.all_eq_true]; intro c hc; obtain ⟨z,-,rfl⟩:=List.mem_map.1 hc; rfl
theorem Lj {os:Nat→Option AO} {n len k:Nat} {es:List (List PV)} (h:os n=some (.arr k es)) (h1:len=es.length) (h2:(es.all fun e=>e.all PV.isVal)=true):T7 k os (.own n len)=some es:=by
  unfold T7; simp only [h]; rw [if_pos ⟨trivial,h1,h2⟩]
theorem Aia (l:List Int):((l.map Jj).all fun e=>e.all PV.isVal)=true:=by
  rw [List.all_eq_true]; intro c hc; obtain ⟨z,-,rfl⟩:=List.mem_map.1 hc; rfl
theorem Ao2 (ls:List (List Int)) (hl:ls.length < 1000000) (hf:ls.flatten.length≤1000000):Ki Tryz.prog 57 [.p (.sl (ls.map Amy))] 1 (ls.flatten.map Jj):=by
  refine L3 (v:=[]) (q:=[]) (N:=36) (i:=2) Tryz.func57 rfl rfl rfl rfl ?_
  refine Aa fun K1 hK1=>?_
  refine Ab ?_
  simp (disch:=omega) only [amL,sA]
  refine hK1 _ ?_
  refine Aa fun K2 hK2=>?_
  refine Ab ?_
  simp (disch:=omega) only [amL,sA]
  refine hK2 _ ?_
  refine Aa fun K3 hK3=>?_
  refine Aa fun K4 hK4=>?_
  refine Ab ?_
  simp (disch:=omega) only [amL,amT,sA,↓reduceIte,reduceCtorEq]
  refine hK4 _ ?_
  refine Ak ?_
  skip
  refine A5 (α:=Nat) (fun k=>⟨T [(0,.p (.sl (ls.map Amy))),(3,i64 ((ls.take k).flatten.length:Int)),(9,.p (.sl (ls.map Amy))),(10,i64 ls.length),(11,i64 (k:Int))],O []⟩) (fun k=>ls.length - k) (fun k=>k≤ls.length) 0 ?_ ?_ (fun k hx5 K5 hK5=>?_)
  · simp
  · refine B0 ?_ ?_ ?_ ?_ <;> (try simp (disch:=omega) only [amL,sF,↓reduceIte,reduceCtorEq]); all_goals rfl
  have hk:=hx5; have hk2:=Ut (l:=ls) k; have hk3:=Ut (l:=ls) (k+1)
  refine Aa fun K6 hK6=>?_
  refine Ab ?_
  simp (disch:=omega) only [amL,amT,sA,sF,↓reduceIte,reduceCtorEq]
  refine hK6 _ ?_
  refine Aa fun K7 hK7=>?_
  refine Ag rfl (fun h=>?_) (fun h=>?_)
  ·first
   | exact Bool.noConfusion h
   |skip
    try simp only [decide_eq_true_eq] at h
    refine Ah ?_
    refine hK7 _ ?_
    refine Aa fun K8 hK8=>?_
    refine Ak ?_
    refine Aa fun K9 hK9=>?_
    refine Ab ?_
    simp (disch:=omega) only [Zy,amL,amT,sA,sF,↓reduceIte,reduceCtorEq]
    refine hK9 _ ?_
    refine Aa fun K10 hK10=>?_
    refine Ab ?_
    have hk4:=congrArg List.length (Aam (l:=ls) (k:=k) (by omega))
    rw [List.length_append] at hk4
    simp (disch:=omega) only [amL,amT,sA,sF,↓reduceIte,reduceCtorEq]
    refine hK10 _ ?_
    refine Aa fun K11 hK11=>?_
    refine Ab ?_
    simp (disch:=omega) only [amL,amT,sA,↓reduceIte]
    refine hK11 _ ?_
    refine Ag rfl (fun h=>?_) (fun h=>?_)
    ·first
     | exact Bool.noConfusion h
     |skip
      try simp only [Bool.not_eq_true',decide_eq_true_eq,decide_eq_false_iff_not,Bool.and_eq_true,Bool.not_eq_false',Bool.not_not,decide_not,Bool.not_true,Bool.not_false] at h
      exfalso; omega
    ·first
     | exact Bool.noConfusion h
     |skip
      try simp only [decide_eq_false_iff_not] at h
      refine Ah ?_
      refine hK8 _ ?_
      refine Ab ?_
      simp (disch:=omega) only [amL,amT,sA,sF,↓reduceIte,reduceCtorEq]
      refine hK5 (k+1) _ ?_ ?_ (B0 ?_ ?_ ?_ ?_)
      all_goals (try simp (disch:=omega) only [amL,sF,↓reduceIte,reduceCtorEq])
      all_goals first | omega | exact congrArg i64 (by omega) | trace_state
  ·first
   | exact Bool.noConfusion h
   |skip
    try simp only [decide_eq_false_iff_not] at h
    refine Bc ?_
    refine hK3 _ ?_
    refine Aa fun K12 hK12=>?_
    refine Ab ?_
    have htk:ls.take k=ls:=List.take_of_length_le (by omega)
    simp (disch:=omega) only [htk,amL,sA,sF,↓reduceIte,reduceCtorEq]
    repeat' first | (refine Vs (by kernel_rfl) (by decide) (Bbo ls.flatten.length hf) (by simp (disch:=omega) only [amL]) ?_ ; simp (disch:=omega) only [amL,sA,↓reduceIte])
    refine hK12 _ ?_
    refine Aa fun K13 hK13=>?_
    refine Aa fun K14 hK14=>?_
    refine Ab ?_
    simp (disch:=omega) only [amL,amT,sA,↓reduceIte,reduceCtorEq]
    refine hK14 _ ?_
    refine Ak ?_
    refine Xo 24 33 rfl (by decide) (by decide) ?_
    refine A5 (α:=Nat) (fun k=>⟨T [(6,.own 33 (ls.take k).flatten.length),(25,.p (.sl (ls.map Amy))),(26,i64 ls.length),(27,i64 (k:Int))],O [(33,.arr 1 ((ls.take k).flatten.map Jj))]⟩) (fun k=>ls.length - k) (fun k=>k≤ls.length) 0 ?_ ?_ (fun k hx15 K15 hK15=>?_)
    · simp
    · refine B0 ?_ ?_ ?_ ?_ <;> (try simp (disch:=omega) only [X9,Abd,AV.ren,AO.ren,rn,amL,sF,↓reduceIte]); all_goals first | rfl | trace_state
    have hk:=hx15; have hk2:=Ut (l:=ls) k; have hk3:=Ut (l:=ls) (k+1)
    refine Aa fun K16 hK16=>?_
    refine Ab ?_
    simp (disch:=omega) only [amL,amT,sA,sF,↓reduceIte]
    refine hK16 _ ?_
    refine Aa fun K17 hK17=>?_
    refine Ag rfl (fun h=>?_) (fun h=>?_)
    ·first
     | exact Bool.noConfusion h
     |skip
      try simp only [decide_eq_true_eq] at h
      refine Ah ?_
      refine hK17 _ ?_
      refine Aa fun K18 hK18=>?_
      refine Ak ?_
      refine Aa fun K19 hK19=>?_
      refine Ab ?_
      simp (disch:=omega) only [Zy,amL,amT,sA,sF,↓reduceIte]
      refine hK19 _ ?_
      refine Ab ?_
      have hk5:=Aam (l:=ls) (k:=k) (by omega)
      have hk4:=congrArg List.length hk5
      rw [List.length_append] at hk4
      simp (disch:=omega) only [Arv,amL,amT,sA,sF,↓reduceIte]
      refine hK18 _ ?_
      refine Ab ?_
      simp (disch:=omega) only [amL,amT,sA,sF,↓reduceIte]
      refine hK15 (k+1) _ ?_ ?_ (B0 ?_ ?_ ?_ ?_)
      all_goals (try simp (disch:=omega) only [amL,sF,↓reduceIte])
      all_goals first | omega | (rw [hk4]; done) | (rw [hk5,List.map_append]; done) | (rw [hk5,List.map_append]; rfl) | trace_state
    ·first
     | exact Bool.noConfusion h
     |skip
      try simp only [decide_eq_false_iff_not] at h
      refine Bc ?_
      refine hK13 _ ?_
      refine Aa fun K20 hK20=>?_
      refine Ab ?_
      simp (disch:=omega) only [amL,sA,sF,↓reduceIte]
      refine hK20 _ ?_
      refine Ae ?_
      try simp (disch:=omega) only [Ep,amL,↓reduceIte]
      rw [List.take_of_length_le (show ls.length≤k by omega)] ; exact Lj rfl (List.length_map _).symm (Aia _)
theorem T5 {α β:Type} {l:List α} {f:α→β} {k:Nat} (d:α) (h:k < l.length):(l.take (k+1)).map f=(l.take k).map f++[f (l.getD k d)]:=by
  rw [List.take_add_one,List.getElem?_eq_getElem h,List.map_append]
  simp [List.getD,h]
theorem Aqa {α:Type} {l:List α} {p:List Rng} {f:α→Rng} {k:Nat} (d:α) (h:k < l.length):(p++(l.take k).map f).map J4++[J4 (f (l.getD k d))]=(p++(l.take (k+1)).map f).map J4:=by
  rw [T5 d h]; simp
theorem Bbl {α β:Type} {l:List α} {p:List β} {f:α→β} {k:Nat} (h:k < l.length):(p++(l.take k).map f).length+1=(p++(l.take (k+1)).map f).length:=by simp; omega
theorem Vv {α:Type} {l:List α} {k:Nat} (h1:k≤l.length) (h2:¬ (k:Int) < l.length):l.take k=l:=List.take_of_length_le (by omega)
theorem Aet (b:Cx) (hl:b.vs.length < 1000000) (hl2:b.ss.length < 1000000):Bj Tryz.prog 58 [avB b] (.p (.sl ((Gv b).map J4))):=by
  refine A7 (v:=[]) (q:=[]) (N:=49) (rs:=[.tmp 2]) Tryz.func58 rfl rfl rfl rfl rfl ?_
  obtain ⟨p1,hp1⟩:∃ p,p=([]:List Rng):=⟨_,rfl⟩
  obtain ⟨p2,hp2⟩:∃ p,p=b.vs.map (·.g):=⟨_,rfl⟩
  obtain ⟨p3,hp3⟩:∃ p,p=b.vs.map (·.g)++b.vs.map (·.d):=⟨_,rfl⟩
  refine Aa fun K1 hK1=>?_
  refine Ab ?_
  simp (disch:=omega) only [amL,sA,↓reduceIte]
  refine hK1 _ ?_
  refine Aa fun K2 hK2=>?_
  refine Aa fun K3 hK3=>?_
  refine Ab ?_
  simp (disch:=omega) only [amL,amT,sA,sF,↓reduceIte,reduceCtorEq]
  refine hK3 _ ?_
  refine Ak ?_
  refine He 20 2 2 (by decide) rfl rfl ?_
  refine A5 (α:=Nat) (fun k=>⟨T [(1,.ptr 1 0),(2,.own 20 (p1++(b.vs.take k).map (·.g)).length),(10,.p (slV b.vs)),(11,i64 b.vs.length),(12,i64 (k:Int))],O [(1,.cells (cB b)),(20,.arr 2 ((p1++(b.vs.take k).map (·.g)).map J4))]⟩) (fun k=>b.vs.length - k) (fun k=>k≤b.vs.length) 0 ?_ ?_ (fun k hx4 K4 hK4=>?_)
  · simp
  · refine B0 ?_ ?_ ?_ ?_ <;> (try simp (disch:=omega) only [amL,sF,sG,↓reduceIte]); all_goals subst hp1; rfl
  have hk:=hx4; have hk2:(p1++(b.vs.take k).map (·.g)).length≤2000000:=(by subst hp1; simp; omega)
  refine Aa fun K5 hK5=>?_
  refine Ab ?_
  simp (disch:=omega) only [amL,amT,sA,sF,↓reduceIte]
  refine hK5 _ ?_
  refine Aa fun K6 hK6=>?_
  refine Ag rfl (fun h=>?_) (fun h=>?_)
  ·first
   | exact Bool.noConfusion h
   |skip
    try simp only [decide_eq_true_eq] at h
    refine Ah ?_
    refine hK6 _ ?_
    refine Aa fun K7 hK7=>?_
    refine Ak ?_
    refine Aa fun K8 hK8=>?_
    refine Ab ?_
    simp (disch:=omega) only [A0,amL,amT,sA,sB,sF,↓reduceIte]
    refine hK8 _ ?_
    refine Ab ?_
    simp (disch:=omega) only [amL,amT,sA,sB,sC,sE,sF,↓reduceIte,reduceCtorEq]
    refine hK7 _ ?_
    refine Ab ?_
    simp (disch:=omega) only [amL,amT,sA,sF,↓reduceIte]
    refine hK4 (k+1) _ ?_ ?_ (B0 ?_ ?_ ?_ ?_)
    all_goals (try simp (disch:=omega) only [amL,sF,sG,↓reduceIte])
    all_goals first | omega | exact congrArg (AV.own _) (Bbl (by omega)) | exact congrArg (AO.arr 2) (Aqa default (by omega)) | trace_state
  ·first
   | exact Bool.noConfusion h
   |skip
    try simp only [decide_eq_false_iff_not] at h
    refine Bc ?_
    refine hK2 _ ?_
    refine Aa fun K9 hK9=>?_
    refine Aa fun K10 hK10=>?_
    refine Ab ?_
    simp (disch:=omega) only [amL,amT,sA,sF,↓reduceIte,reduceCtorEq]
    refine hK10 _ ?_
    refine Ak ?_
    refine Xo 20 33 rfl (by decide) (by decide) ?_
    refine A5 (α:=Nat) (fun k=>⟨T [(1,.ptr 1 0),(2,.own 33 (p2++(b.vs.take k).map (·.d)).length),(23,.p (slV b.vs)),(24,i64 b.vs.length),(25,i64 (k:Int))],O [(1,.cells (cB b)),(33,.arr 2 ((p2++(b.vs.take k).map (·.d)).map J4))]⟩) (fun k=>b.vs.length - k) (fun k=>k≤b.vs.length) 0 ?_ ?_ (fun k hx11 K11 hK11=>?_)
    · simp
    · refine B0 ?_ ?_ ?_ ?_ <;> (try simp (disch:=omega) only [X9,Abd,AV.ren,AO.ren,rn,amL,sF,sG,↓reduceIte]); all_goals first | rfl | (rw [Vv (by assumption) (by assumption)]; subst hp1 hp2; simp)
    have hk:=hx11; have hk2:(p2++(b.vs.take k).map (·.d)).length≤3000000:=(by subst hp2; simp; omega)
    refine Aa fun K12 hK12=>?_
    refine Ab ?_
    simp (disch:=omega) only [amL,amT,sA,sF,↓reduceIte]
    refine hK12 _ ?_
    refine Aa fun K13 hK13=>?_
    refine Ag rfl (fun h=>?_) (fun h=>?_)
    ·first
     | exact Bool.noConfusion h
     |skip
      try simp only [decide_eq_true_eq] at h
      refine Ah ?_
      refine hK13 _ ?_
      refine Aa fun K14 hK14=>?_
      refine Ak ?_
      refine Aa fun K15 hK15=>?_
      refine Ab ?_
      simp (disch:=omega) only [A0,amL,amT,sA,sB,sF,↓reduceIte]
      refine hK15 _ ?_
      refine Ab ?_
      simp (disch:=omega) only [amL,amT,sA,sB,sC,sE,sF,↓reduceIte,reduceCtorEq]
      refine hK14 _ ?_
      refine Ab ?_
      simp (disch:=omega) only [amL,amT,sA,sF,↓reduceIte]
      refine hK11 (k+1) _ ?_ ?_ (B0 ?_ ?_ ?_ ?_)
      all_goals (try simp (disch:=omega) only [amL,sF,sG,↓reduceIte])
      all_goals first | omega | exact congrArg (AV.own _) (Bbl (by omega)) | exact congrArg (AO.arr 2) (Aqa default (by omega)) | trace_state
    ·first
     | exact Bool.noConfusion h
     |skip
      try simp only [decide_eq_false_iff_not] at h
      refine Bc ?_
      refine hK9 _ ?_
      refine Aa fun K16 hK16=>?_
      refine Aa fun K17 hK17=>?_
      refine Ab ?_
      simp (disch:=omega) only [amL,amT,sA,sF,↓reduceIte,reduceCtorEq]
      refine hK17 _ ?_
      refine Ak ?_
      refine Xo 33 46 rfl (by decide) (by decide) ?_
      refine A5 (α:=Nat) (fun k=>⟨T [(1,.ptr 1 0),(2,.own 46 (p3++(b.ss.take k).map (·.g)).length),(36,.p (slS b.ss)),(37,i64 b.ss.length),(38,i64 (k:Int))],O [(1,.cells (cB b)),(46,.arr 2 ((p3++(b.ss.take k).map (·.g)).map J4))]⟩) (fun k=>b.ss.length - k) (fun k=>k≤b.ss.length) 0 ?_ ?_ (fun k hx18 K18 hK18=>?_)
      · simp
      · refine B0 ?_ ?_ ?_ ?_ <;> (try simp (disch:=omega) only [X9,Abd,AV.ren,AO.ren,rn,amL,sF,sG,↓reduceIte]); all_goals first | rfl | (rw [Vv (by assumption) (by assumption)]; subst hp2 hp3; simp)
      have hk:=hx18; have hk2:(p3++(b.ss.take k).map (·.g)).length≤4000000:=(by subst hp3; simp; omega)
      refine Aa fun K19 hK19=>?_
      refine Ab ?_
      simp (disch:=omega) only [amL,amT,sA,sF,↓reduceIte]
      refine hK19 _ ?_
      refine Aa fun K20 hK20=>?_
      refine Ag rfl (fun h=>?_) (fun h=>?_)
      ·first
       | exact Bool.noConfusion h
       |skip
        try simp only [decide_eq_true_eq] at h
        refine Ah ?_
        refine hK20 _ ?_
        refine Aa fun K21 hK21=>?_
        refine Ak ?_
        refine Aa fun K22 hK22=>?_
        refine Ab ?_
        simp (disch:=omega) only [Eu,amL,amT,sA,sB,sF,↓reduceIte]
        refine hK22 _ ?_
        refine Ab ?_
        simp (disch:=omega) only [amL,amT,sA,sB,sC,sE,sF,↓reduceIte,reduceCtorEq]
        refine hK21 _ ?_
        refine Ab ?_
        simp (disch:=omega) only [amL,amT,sA,sF,↓reduceIte]
        refine hK18 (k+1) _ ?_ ?_ (B0 ?_ ?_ ?_ ?_)
        all_goals (try simp (disch:=omega) only [amL,sF,sG,↓reduceIte])
        all_goals first | omega | exact congrArg (AV.own _) (Bbl (by omega)) | exact congrArg (AO.arr 2) (Aqa default (by omega)) | trace_state
      ·first
       | exact Bool.noConfusion h
       |skip
        try simp only [decide_eq_false_iff_not] at h
        refine Bc ?_
        refine hK16 _ ?_
        refine Aa fun K23 hK23=>?_
        refine Ab ?_
        simp (disch:=omega) only [amL,sA,sF,↓reduceIte]
        refine hK23 _ ?_
        refine Ae ?_
        try simp (disch:=omega) only [amL,sF,↓reduceIte]
        rw [List.take_of_length_le (by simp),Vv hk h,hp3]; rfl
theorem elV:ElT Tryz.prog 35 128 avV Aex:=Abl (P:=Tryz.prog) (tS:=35) (tE:=128) (enc:=Aex) (n:=5) (by simp only [amT]) (by simp only [amT]; rfl) (by simp only [amT]) (fun _=>rfl)
theorem elS:ElT Tryz.prog 36 135 avS Qc:=Abl (P:=Tryz.prog) (tS:=36) (tE:=135) (enc:=Qc) (n:=5) (by simp only [amT]) (by simp only [amT]; rfl) (by simp only [amT]) (fun _=>rfl)
theorem elR:ElT Tryz.prog 113 58 avR J4:=Abl (P:=Tryz.prog) (tS:=113) (tE:=58) (enc:=J4) (n:=2) (by simp only [amT]) (by simp only [amT]; rfl) (by simp only [amT]) (fun _=>rfl)
theorem elN:ElT Tryz.prog 26 3 i64 Jj:=At8 (P:=Tryz.prog) (tS:=26) (tE:=3) (f:=fun n=>iv n) (by simp only [amT]) (by simp only [amT]; rfl) (by simp only [amT])
theorem sfV:Pe Tryz.prog 35 128 132 3 4 127 105:=⟨⟨_,Tryz.func127,rfl,rfl,rfl,by kernel_rfl⟩,⟨_,Tryz.func105,rfl,rfl,rfl,by kernel_rfl⟩⟩
theorem afV:Alb Tryz.prog 35 128 132 4 105 106 66:=⟨⟨_,Tryz.func106,rfl,rfl,rfl,by kernel_rfl⟩,⟨_,Tryz.func66,rfl,rfl,rfl,by kernel_rfl⟩⟩
theorem sfS:Pe Tryz.prog 36 135 130 3 4 128 107:=⟨⟨_,Tryz.func128,rfl,rfl,rfl,by kernel_rfl⟩,⟨_,Tryz.func107,rfl,rfl,rfl,by kernel_rfl⟩⟩
theorem afS:Alb Tryz.prog 36 135 130 4 107 108 68:=⟨⟨_,Tryz.func108,rfl,rfl,rfl,by kernel_rfl⟩,⟨_,Tryz.func68,rfl,rfl,rfl,by kernel_rfl⟩⟩
theorem Bbb (l:List Ves) (hl:l.length < 1000000) {os:Nat→Option AO} {bd:Nat}:Bt Tryz.prog bd (.fn (.func 66) [] []) [.p (slV l),.fn (.func 67) [] []] os fun res os'=>res=bl (l.all Df)∧os'=os:=
  Aro elV sfV afV (by simp only [amT]; rfl) (by kernel_rfl) rfl (fun x _=>Aso x) hl
theorem Bah (b:Cx) (l:List Stp) (hb:b.vs.length < 1000000) (hl:l.length < 1000000) {os:Nat→Option AO} {bd:Nat}:Bt Tryz.prog bd (.fn (.func 68) [] []) [.p (slS l),.fn (.func 65) [avB b] []] os fun res os'=>res=bl (l.all (Dm b.vs.length))∧os'=os:=
  Aro elS sfS afS (by simp only [amT]; rfl) (by kernel_rfl) rfl (fun x _=>Azn b x hb) hl
theorem Am0 {p s:Int} (h1:1≤p) (h2:p≤4782969) (h3:1≤s) (h4:s≤3):-9223372036854775808≤p * s∧p * s < 9223372036854775808:=by
  have e1:=Int.mul_le_mul h2 h4 (by omega) (by omega)
  have e2:=Int.mul_nonneg (show 0≤p by omega) (show 0≤s by omega)
  omega
theorem Aja (b:Cx) (hl:b.vs.length < 1000000) (hl2:b.ss.length < 1000000):Bj Tryz.prog 19 [avB b] (i64 (B5 b)):=by
  refine A7 (v:=[66,68]) (q:=[]) (N:=52) (rs:=[.tmp 2]) Tryz.func19 rfl rfl rfl rfl rfl ?_
  refine Aa fun K1 hK1=>?_
  refine Ab ?_
  simp (disch:=omega) only [amL,sA,↓reduceIte]
  refine hK1 _ ?_
  refine Aa fun K2 hK2=>?_
  refine Ab ?_
  simp (disch:=omega) only [amL,amT,sA,sB,sF,↓reduceIte]
  refine hK2 _ ?_
  refine Aa fun K3 hK3=>?_
  refine Ak ?_
  refine Aa fun K4 hK4=>?_
  refine Ab ?_
  simp (disch:=omega) only [amL,amT,sA,sF,↓reduceIte,reduceCtorEq]
  repeat' first | (refine Cn (fun h=>?_) (fun h=>?_) <;> simp (disch:=omega) only [h,amL,amT,sA,sF,↓reduceIte,reduceCtorEq]) | (refine Bo (fun h=>?_) (fun h=>?_) <;> simp (disch:=omega) only [h,Bu,amL,amT,sA,sB,sC,sD,sE,sF,sG,sH,sI,sJ,sK,sL,sM,sN,sO,↓reduceIte,reduceCtorEq])
  all_goals
   skip
   refine hK4 _ ?_
   refine Ag rfl (fun h=>?_) (fun h=>?_)
   ·first
    | exact Bool.noConfusion h
    |skip
     try simp only [decide_eq_true_eq] at h
     refine Aa fun K5 hK5=>?_
     refine Ab ?_
     simp (disch:=omega) only [amL,sA]
     refine hK5 _ ?_
     refine Ae ?_
     try simp (disch:=omega) only [amL,↓reduceIte]
     all_goals first | (unfold B5; rw [if_pos (by omega)]; done) | (unfold B5; rw [if_neg (by omega),if_pos (by omega)]; done) | (unfold B5; rw [if_neg (by omega),if_neg (by omega),if_pos (by first | (simp_all; done) | fail)]; done) | (unfold B5; rw [if_neg (by omega),if_neg (by omega),if_neg (by first | (simp_all; done) | fail),if_pos (by first | assumption | fail)]; done) | (unfold B5; rw [if_neg (by omega),if_neg (by omega),if_neg (by rw [hv]; decide),if_neg (by rw [hs]; decide)]; rw [Vv (by assumption) (by assumption)] at h; first | (rw [if_pos (show 2000 < Pb b from h)]; done) | (rw [if_neg (show ¬ 2000 < Pb b from h)]; done)) | trace_state
   ·first
    | exact Bool.noConfusion h
    |skip
     try simp only [decide_eq_false_iff_not] at h
     refine Aa fun K6 hK6=>?_
     refine Ab ?_
     simp (disch:=omega) only [amL,amT,sA,sF,↓reduceIte,reduceCtorEq]
     repeat' first | (refine Cn (fun h=>?_) (fun h=>?_) <;> simp (disch:=omega) only [h,amL,amT,sA,sF,sG,↓reduceIte,reduceCtorEq]) | (refine Bo (fun h=>?_) (fun h=>?_) <;> simp (disch:=omega) only [h,amL,amT,sA,sF,sG,↓reduceIte,reduceCtorEq]) | (refine Cv (bd:=52) (by decide) (Bbb b.vs hl) (M8 rfl) (by decide) rfl ?_ ; simp (disch:=omega) only [amL,sA,sF,↓reduceIte]) | (refine Cv (bd:=52) (by decide) (Bah b b.ss hl hl2) (M8 rfl) (by decide) rfl ?_ ; simp (disch:=omega) only [amL,sA,sF,↓reduceIte])
     all_goals
      skip
      refine hK6 _ ?_
      refine Ag rfl (fun h=>?_) (fun h=>?_)
      ·first
       | exact Bool.noConfusion h
       |skip
        try simp only [Bool.not_eq_true'] at h
        refine Aa fun K7 hK7=>?_
        refine Ab ?_
        simp (disch:=omega) only [amL,sA]
        refine hK7 _ ?_
        refine Ae ?_
        try simp (disch:=omega) only [amL,↓reduceIte]
        all_goals first | (unfold B5; rw [if_pos (by omega)]; done) | (unfold B5; rw [if_neg (by omega),if_pos (by omega)]; done) | (unfold B5; rw [if_neg (by omega),if_neg (by omega),if_pos (by first | (simp_all; done) | fail)]; done) | (unfold B5; rw [if_neg (by omega),if_neg (by omega),if_neg (by first | (simp_all; done) | fail),if_pos (by first | assumption | fail)]; done) | (unfold B5; rw [if_neg (by omega),if_neg (by omega),if_neg (by rw [hv]; decide),if_neg (by rw [hs]; decide)]; rw [Vv (by assumption) (by assumption)] at h; first | (rw [if_pos (show 2000 < Pb b from h)]; done) | (rw [if_neg (show ¬ 2000 < Pb b from h)]; done)) | trace_state
      ·first
       | exact Bool.noConfusion h
       |skip
        try simp only [Bool.not_eq_false'] at h
        refine Ah ?_
        refine hK3 _ ?_
        refine Aa fun K8 hK8=>?_
        refine Ab ?_
        have hv:b.vs.all Df=true:=by simp_all
        have hs:b.ss.all (Dm b.vs.length)=true:=by simp_all
        have hpb:=Q7 (Zr hv hs)
        have hln:=R3 (b:=b)
        simp (disch:=omega) only [amL,sA]
        refine hK8 _ ?_
        refine Aa fun K9 hK9=>?_
        refine Aa fun K10 hK10=>?_
        refine Ab ?_
        simp (disch:=omega) only [amL,amT,sA,sB,sF,sG,↓reduceIte]
        repeat' first | (refine Al (by kernel_rfl) rfl (Aet b hl hl2) (by first | exact .inl rfl | exact .inr (.inl rfl)) ?_ ; simp (disch:=omega) only [amL,amT,sA,↓reduceIte])
        refine hK10 _ ?_
        refine Ak ?_
        skip
        refine A5 (α:=Nat) (fun k=>⟨T [(4,i64 (Dg ((Gv b).take k) 1)),(39,.p (.sl ((Gv b).map J4))),(40,i64 (Gv b).length),(41,i64 (k:Int))],O []⟩) (fun k=>(Gv b).length - k) (fun k=>k≤(Gv b).length) 0 ?_ ?_ (fun k hx11 K11 hK11=>?_)
        · simp
        · refine B0 ?_ ?_ ?_ ?_ <;> (try simp (disch:=omega) only [amL,sF,↓reduceIte]); all_goals rfl
        have hk:=hx11
        refine Aa fun K12 hK12=>?_
        refine Ab ?_
        simp (disch:=omega) only [amL,amT,sA,sF,↓reduceIte]
        refine hK12 _ ?_
        refine Aa fun K13 hK13=>?_
        refine Ag rfl (fun h=>?_) (fun h=>?_)
        ·first
         | exact Bool.noConfusion h
         |skip
          try simp only [decide_eq_true_eq] at h
          refine Ah ?_
          refine hK13 _ ?_
          refine Aa fun K14 hK14=>?_
          refine Ak ?_
          refine Aa fun K15 hK15=>?_
          refine Ab ?_
          simp (disch:=omega) only [Bu,amL,amT,sA,sB,sF,↓reduceIte]
          refine hK15 _ ?_
          refine Ab ?_
          have hsz:=Zr hv hs _ (AM.Wort.Em default (show k < (Gv b).length by omega))
          have hp:=hpb k (by omega)
          have hp3:=Ajy (k:=k) (by omega)
          have hm:=Am0 hp.1 (by omega) hsz.1 hsz.2
          have hw:IntKind.i64.wrap (Dg ((Gv b).take k) 1 * Dp ((Gv b).getD k default))=_:=D1 hm.1 hm.2
          have hw2:IntKind.i64.wrap ((k:Int)+1)=_:=D1 (by omega) (by omega)
          unfold Dp at hsz
          simp (disch:=omega) only [amL,amT,sA,sB,sF,sG,↓reduceIte]
          repeat' first | (refine Al (by kernel_rfl) rfl (Ahr ((Gv b).getD k default) (by omega) (by omega)) (by first | exact .inl rfl | exact .inr (.inl rfl)) ?_ ; simp (disch:=omega) only [amL,amT,sA,sF,↓reduceIte])
          refine hK14 _ ?_
          refine Ab ?_
          simp (disch:=omega) only [amL,amT,sA,sF,↓reduceIte]
          refine hK11 (k+1) _ ?_ ?_ (B0 ?_ ?_ ?_ ?_)
          all_goals (try simp (disch:=omega) only [amL,sF,↓reduceIte])
          all_goals first | omega | (rw [Xi (l:=Gv b) (k:=k) (by omega)]) | trace_state
        ·first
         | exact Bool.noConfusion h
         |skip
          try simp only [decide_eq_false_iff_not] at h
          refine Bc ?_
          refine hK9 _ ?_
          refine Aa fun K16 hK16=>?_
          refine Aa fun K17 hK17=>?_
          refine Ab ?_
          simp (disch:=omega) only [amL,amT,sA,sF,↓reduceIte]
          refine hK17 _ ?_
          refine Ag rfl (fun h=>?_) (fun h=>?_)
          ·first
           | exact Bool.noConfusion h
           |skip
            try simp only [decide_eq_true_eq] at h
            refine Aa fun K18 hK18=>?_
            refine Ab ?_
            simp (disch:=omega) only [amL,sA]
            refine hK18 _ ?_
            refine Ae ?_
            try simp (disch:=omega) only [amL,↓reduceIte]
            all_goals first | (unfold B5; rw [if_pos (by omega)]; done) | (unfold B5; rw [if_neg (by omega),if_pos (by omega)]; done) | (unfold B5; rw [if_neg (by omega),if_neg (by omega),if_pos (by first | (simp_all; done) | fail)]; done) | (unfold B5; rw [if_neg (by omega),if_neg (by omega),if_neg (by first | (simp_all; done) | fail),if_pos (by first | assumption | fail)]; done) | (unfold B5; rw [if_neg (by omega),if_neg (by omega),if_neg (by rw [hv]; decide),if_neg (by rw [hs]; decide)]; rw [Vv (by assumption) (by assumption)] at h; first | (rw [if_pos (show 2000 < Pb b from h)]; done) | (rw [if_neg (show ¬ 2000 < Pb b from h)]; done)) | trace_state
          ·first
           | exact Bool.noConfusion h
           |skip
            try simp only [decide_eq_false_iff_not] at h
            refine Ah ?_
            refine hK16 _ ?_
            refine Aa fun K19 hK19=>?_
            refine Ab ?_
            simp (disch:=omega) only [amL,sA]
            refine hK19 _ ?_
            refine Ae ?_
            try simp (disch:=omega) only [amL,↓reduceIte]
            all_goals first | (unfold B5; rw [if_pos (by omega)]; done) | (unfold B5; rw [if_neg (by omega),if_pos (by omega)]; done) | (unfold B5; rw [if_neg (by omega),if_neg (by omega),if_pos (by first | (simp_all; done) | fail)]; done) | (unfold B5; rw [if_neg (by omega),if_neg (by omega),if_neg (by first | (simp_all; done) | fail),if_pos (by first | assumption | fail)]; done) | (unfold B5; rw [if_neg (by omega),if_neg (by omega),if_neg (by rw [hv]; decide),if_neg (by rw [hs]; decide)]; rw [Vv (by assumption) (by assumption)] at h; first | (rw [if_pos (show 2000 < Pb b from h)]; done) | (rw [if_neg (show ¬ 2000 < Pb b from h)]; done)) | trace_state
theorem Az {l:List (Nat × AO)} {b:Nat} (h:l.all fun x=>decide (x.1 < b)):∀ n,b≤n→O l n=none:=by
  intro n hn
  induction l with
  | nil=>rfl
  | cons x l ih=>
    simp only [List.all_cons,Bool.and_eq_true,decide_eq_true_eq] at h
    rw [Aj,if_neg (by omega)]
    exact ih h.2
theorem Ca {r:RB} {N:Nat} {s:St} {K:St→Prop} {dst:Option Nat} {ty:TypeId} {pos:String} {after:Array Edge} {g:Option (Nat × Bool)} {x:Operand} {lo hi:Option Operand}:EO Tryz.prog r N ⟨dst,.slice 120 x lo hi none,ty,pos,after,g⟩ s K=EOp r.b N dst s K (Avd (fun e=>(Ac Tryz.prog e).sz) (fun e=>(Ac Tryz.prog e).agg) 4 118 (ev s.t x) (Bk (ev s.t) 0 lo) (Bk (ev s.t) 4 hi)):=Y7 (by rw [Aji])
theorem ld2 {a b:AV} {l:List AV}:(if 2≤(a :: b :: l).length then some (AV.agg (List.take 2 (a :: b :: l))) else none)=some (.agg [a,b]):=by simp
theorem Cu {n:Nat} (v:List Liq):(cW v).map (AV.purge n)=cW v:=by
  unfold cW
  rw [List.map_map]; rfl
theorem Ahq {ks:List Nat} (v:List Liq):nmL ks (cW v)=true:=by
  unfold cW
  generalize wI v=l
  induction l with
  | nil=>rfl
  | cons x l ih=>simp only [List.map_cons,nmL,nm,ih,Bool.and_self]
def D9 (b:Cx) (t:Tru):AV:=
  if B5 b=0 then
    if C1 b t=true then
      if (Ns b t).2=true then .tup [.p (.sl (((Ns b t).1.take b.vs.length).map fun l=>H5 (L1 l))),i64 0] else .tup [Dk,i64 11]
    else .tup [Dk,i64 2]
  else .tup [Dk,i64 (B5 b)]
theorem Akk (b:Cx) (t:Tru):(D9 b t).isP=true:=by
  unfold D9; split <;> (try split) <;> (try split) <;> rfl
theorem Au1 (b:Cx) (t:Tru) (hl:b.vs.length < 1000000) (hl2:b.ss.length < 1000000) (hn:(Kq t).length≤1000000):Bj Tryz.prog 15 [avB b,avT t] (D9 b t):=by
  refine A7 (v:=[60,61]) (q:=[]) (N:=99) (rs:=[.tmp 4,.tmp 5]) Tryz.func15 rfl rfl rfl rfl (Akk b t) ?_
  have hnl:=Asi t
  have hrl:=R3 (b:=b)
  have hcc:=Ao2 [t.g,t.d,t.m] (by simp) hn
  rw [show [t.g,t.d,t.m].flatten=Kq t from rfl] at hcc
  refine Aa fun K1 hK1=>?_
  refine Ab ?_
  simp (disch:=omega) only [Ai,Aj,amL,sA,sB,sF,↓reduceIte,reduceCtorEq]
  refine hK1 _ ?_
  refine Aa fun K2 hK2=>?_
  refine Aa fun K3 hK3=>?_
  refine Ab ?_
  simp (disch:=omega) only [Ai,Aj,amL,amT,sA,sB,sF,sG,↓reduceIte]
  repeat' first | (refine Al (by kernel_rfl) rfl (Aja b hl hl2) (by first | exact .inl rfl | exact .inr (.inl rfl)) ?_ ; simp (disch:=omega) only [Ai,amL,sA,↓reduceIte])
  refine hK3 _ ?_
  refine Aa fun K4 hK4=>?_
  refine Ab ?_
  simp (disch:=omega) only [ne_eq,Ai,amL,amT,sA,↓reduceIte]
  refine hK4 _ ?_
  refine Ag rfl (fun h=>?_) (fun h=>?_)
  ·first
   | exact Bool.noConfusion h
   |skip
    try simp only [Bool.not_eq_true',decide_eq_false_iff_not,decide_not] at h
    refine Aa fun K5 hK5=>?_
    refine Ab ?_
    simp (disch:=omega) only [Ai,amL,sA,sF,↓reduceIte]
    refine hK5 _ ?_
    refine Ae ?_
    try simp (disch:=omega) only [Ai,amL,sF,↓reduceIte]
    all_goals first | (rw [D9,if_neg (by assumption)]; done) | (have e9:k=b.vs.length:=(by omega) ; rw [D9,if_pos hf0,if_pos hli,if_pos hbt,List.take_of_length_le (by simp ; omega),e9,hw] ; done) | (rw [D9,if_pos hf0,if_pos hli,if_neg (by simpa using h)]; done) | (rw [D9,if_pos (by omega),if_neg (fun e=>by have:=Cg e; omega)]; done) | (rw [D9,if_pos (by omega),if_neg (fun e=>by have:=Li e (k:=k) (by omega); simp_all)]; done) | trace_state
  ·first
   | exact Bool.noConfusion h
   |skip
    try simp only [decide_eq_true_eq,Bool.not_eq_false',decide_not] at h
    refine Ah ?_
    refine hK2 _ ?_
    refine Aa fun K6 hK6=>?_
    refine Ab ?_
    simp (disch:=omega) only [and_self,Ai,Aj,amL,amT,sA,sB,sE,sF,sG,↓reduceIte,reduceCtorEq]
    repeat' first | (refine Vs (by kernel_rfl) (by decide) (hcc) (by simp (disch:=omega) only [Aj,amL,sF,↓reduceIte]) ?_ ; simp (disch:=omega) only [Ai,amL,sA,↓reduceIte])
    refine hK6 _ ?_
    refine Aa fun K7 hK7=>?_
    refine Aa fun K8 hK8=>?_
    refine Ab ?_
    simp (disch:=omega) only [ne_eq,Ai,Aj,amL,amT,sA,sF,↓reduceIte,reduceCtorEq]
    repeat' first | (refine Cn (fun h=>?_) (fun h=>?_) <;> simp (disch:=omega) only [h,ne_eq,Ai,Aj,amL,amT,sA,sF,↓reduceIte,reduceCtorEq]) | (refine Bo (fun h=>?_) (fun h=>?_) <;> simp (disch:=omega) only [h,Bu,Be,ne_eq,Ad,A9,Ax,Bm,Bb,and_self,Ai,Aj,A2,Ca,Cm,Bw,Bx,Cl,Ma,Kn,M6,Int.sub_zero,Int.toNat_natCast,Cq,ld2,Cu,amL,amT,sA,sB,sC,sD,sE,sF,sG,sH,sI,sJ,sK,sL,sM,sN,sO,↓reduceIte,reduceCtorEq])
    all_goals
     skip
     refine hK8 _ ?_
     refine Ag rfl (fun h=>?_) (fun h=>?_)
     ·first
      | exact Bool.noConfusion h
      |skip
       try simp only [Bool.not_eq_true',decide_eq_false_iff_not,decide_not] at h
       refine Aa fun K9 hK9=>?_
       refine Ab ?_
       simp (disch:=omega) only [amL,sA]
       refine hK9 _ ?_
       refine Ae ?_
       try simp (disch:=omega) only [Ai,amL,sF,↓reduceIte]
       all_goals first | (rw [D9,if_neg (by assumption)]; done) | (have e9:k=b.vs.length:=(by omega) ; rw [D9,if_pos hf0,if_pos hli,if_pos hbt,List.take_of_length_le (by simp ; omega),e9,hw] ; done) | (rw [D9,if_pos hf0,if_pos hli,if_neg (by simpa using h)]; done) | (rw [D9,if_pos (by omega),if_neg (fun e=>by have:=Cg e; omega)]; done) | (rw [D9,if_pos (by omega),if_neg (fun e=>by have:=Li e (k:=k) (by omega); simp_all)]; done) | trace_state
     ·first
      | exact Bool.noConfusion h
      |skip
       try simp only [decide_eq_true_eq,Bool.not_eq_false',decide_not] at h
       refine Ah ?_
       refine hK7 _ ?_
       refine Aa fun K10 hK10=>?_
       refine Aa fun K11 hK11=>?_
       refine Ab ?_
       simp (disch:=omega) only [Ai,Aj,amL,amT,sA,sB,sF,sG,↓reduceIte]
       repeat' first | (refine Al (by kernel_rfl) rfl (Aet b hl hl2) (by first | exact .inl rfl | exact .inr (.inl rfl)) ?_ ; simp (disch:=omega) only [Ai,amL,amT,sA,↓reduceIte])
       refine hK11 _ ?_
       refine Ak ?_
       skip
       refine A5 (α:=Nat) (fun k=>⟨T [(2,.ptr 2 0),(3,.ptr 3 0),(4,Dk),(5,i64 0),(6,i64 (B5 b)),(7,.own 27 (Kq t).length),(54,.p (.sl ((Gv b).map J4))),(55,i64 (Gv b).length),(56,i64 (k:Int))],O [(2,.cells (cB b)),(3,.cells (cT t)),(27,.arr 1 ((Kq t).map Jj))]⟩) (fun k=>(Gv b).length - k) (fun k=>k≤(Gv b).length∧∀ j,j < k→Ko ((Gv b).getD j default) ((Kq t).getD j 0)=true) 0 ?_ ?_ (fun k hx12 K12 hK12=>?_)
       · exact ⟨by simp,fun j hj=>absurd hj (Nat.not_lt_zero _)⟩
       · refine B0 ?_ ?_ ?_ ?_ <;> (try simp (disch:=omega) only [A9,Ax,Bm,Bb,and_self,Ai,Aj,amL,sF,sG,↓reduceIte]); all_goals first | rfl | trace_state
       obtain ⟨hk,hpre⟩:=hx12
       refine Aa fun K13 hK13=>?_
       refine Ab ?_
       simp (disch:=omega) only [Ai,amL,amT,sA,sF,↓reduceIte]
       refine hK13 _ ?_
       refine Aa fun K14 hK14=>?_
       refine Ag rfl (fun h=>?_) (fun h=>?_)
       ·first
        | exact Bool.noConfusion h
        |skip
         try simp only [decide_eq_true_eq] at h
         refine Ah ?_
         refine hK14 _ ?_
         refine Aa fun K15 hK15=>?_
         refine Ak ?_
         refine Aa fun K16 hK16=>?_
         refine Ab ?_
         simp (disch:=omega) only [Bu,and_self,Ai,Aj,Int.toNat_natCast,amL,amT,sA,sB,sF,↓reduceIte]
         refine hK16 _ ?_
         refine Aa fun K17 hK17=>?_
         refine Bg (by kernel_rfl) (by kernel_rfl) ?_
         simp (disch:=omega) only [Be,and_self,Ai,Aj,Int.toNat_natCast,amL,amT,sA,sB,sF,sG,↓reduceIte]
         repeat' first | (refine Al (by kernel_rfl) rfl (Ajp ((Gv b).getD k default) ((Kq t).getD k 0)) (by first | exact .inl rfl | exact .inr (.inl rfl)) ?_ ; simp (disch:=omega) only [Ai,amL,sA,↓reduceIte])
         refine hK17 _ ?_
         refine Ag rfl (fun h=>?_) (fun h=>?_)
         ·first
          | exact Bool.noConfusion h
          |skip
           try simp only [Bool.not_eq_true'] at h
           refine Aa fun K18 hK18=>?_
           refine Ab ?_
           simp (disch:=omega) only [amL,sA]
           refine hK18 _ ?_
           refine Ae ?_
           try simp (disch:=omega) only [Ai,amL,sF,↓reduceIte]
           all_goals first | (rw [D9,if_neg (by assumption)]; done) | (have e9:k=b.vs.length:=(by omega) ; rw [D9,if_pos hf0,if_pos hli,if_pos hbt,List.take_of_length_le (by simp ; omega),e9,hw] ; done) | (rw [D9,if_pos hf0,if_pos hli,if_neg (by simpa using h)]; done) | (rw [D9,if_pos (by omega),if_neg (fun e=>by have:=Cg e; omega)]; done) | (rw [D9,if_pos (by omega),if_neg (fun e=>by have:=Li e (k:=k) (by omega); simp_all)]; done) | trace_state
         ·first
          | exact Bool.noConfusion h
          |skip
           try simp only [Bool.not_eq_false'] at h
           refine Ah ?_
           refine hK15 _ ?_
           refine Ab ?_
           simp (disch:=omega) only [Ai,amL,amT,sA,sF,↓reduceIte]
           refine hK12 (k+1) _ ?_ ?_ (B0 ?_ ?_ ?_ ?_)
           all_goals (try simp (disch:=omega) only [A9,Ax,Bm,Bb,and_self,Ai,Aj,amL,sF,sG,↓reduceIte])
           all_goals first | omega | exact ⟨by omega,fun j hj=>by
             by_cases e:j=k
             · subst e; assumption
             · exact hpre j (by omega)⟩ | trace_state
       ·first
        | exact Bool.noConfusion h
        |skip
         try simp only [decide_eq_false_iff_not] at h
         refine Bc ?_
         refine hK10 _ ?_
         refine Aa fun K19 hK19=>?_
         have hli:C1 b t=true:=Akc (by omega) (by omega) (by omega) (fun j hj=>hpre j (by omega))
         have hf0:B5 b=0:=by omega
         have hval:=Acu hf0
         obtain ⟨hw4,hwo⟩:=Arw hval hli
         obtain ⟨w,hw⟩:∃ w,w=(Ns b t).1:=⟨_,rfl⟩
         rw [← hw] at hw4 hwo
         have hpc:A3 [i64 0,i64 0,i64 0,i64 0,i64 0,i64 0,i64 0,i64 0] 0 (cW w)=cW w:=Cr (v:=v0) hw4
         refine Anc [(2,.ptr 2 0),(4,Dk),(5,i64 0),(10,.ptr 10 0),(11,bl (Ns b t).2)] [(2,.cells (cB b)),(10,.cells (cW w))] hK19 rfl (by simp only [Wt,nmO,Ahq,nmL,nm,Bool.and_self]) ?_ (fun K19 hK19=>?_)
         · refine Asq (n:=5) (l:=[0,1,0,7,15,31,31,0,191,511]) (by kernel_rfl) (by kernel_rfl) (by kernel_rfl) ?_
           refine Gb (ls:=[0,2,7]) rfl ⟨?_,?_,?_,trivial⟩
           · refine Ew (rem':=[1,2,3,4,5,6,7,8,9]) rfl rfl ?_
             simp (disch:=omega) only [Ai,Aj,amL,amT,sA,sB,sF,↓reduceIte]
             refine Gb (ls:=[1,2,7]) rfl ⟨?_,?_,?_,trivial⟩
             · refine Ew (rem':=[2,3,4,5,6,7,8,9]) rfl rfl ?_
               simp (disch:=omega) only [Ai,amL,sG,↓reduceIte]
               refine A6 [(2,.ptr 2 0),(3,.ptr 3 0),(4,Dk),(5,i64 0)] (by decide) (Ed (b:=b) (bd:=99)) (Az rfl) (by decide) (fun res os2 hR hcl2 hlv2=>?_)
               obtain ⟨rfl,rfl⟩:=hR
               simp (disch:=omega) only [A9,Ax,and_self,Ai,Aj,amL,sB,sF,↓reduceIte]
               refine Gb (ls:=[2,7]) rfl ⟨?_,?_,trivial⟩
               · refine Ew (rem':=[3,4,5,6,7,8,9]) rfl rfl ?_
                 simp (disch:=omega) only [Ai,Aj,amL,amT,sA,sB,sF,↓reduceIte]
                 refine Gb (ls:=[3,7]) rfl ⟨?_,?_,trivial⟩
                 · refine Ew (rem':=[4,5,6,7,8,9]) rfl rfl ?_
                   simp (disch:=omega) only [Ai,amL,sF,sG,↓reduceIte]
                   (refine Cv (bd:=300) (by decide) (Fi (m:=103) ⟨by simp (disch:=omega) only [Aj,↓reduceIte],by simp (disch:=omega) only [Aj,sF,↓reduceIte]⟩ hval hli) (fun q hq=>by simp (disch:=omega) only []; exact Az rfl q (by omega)) (by decide) (Ey _ _) ?_ ; rw [← hw] ; simp (disch:=omega) only [amL])
                   refine E0 (by kernel_rfl) ?_
                   show EL _ _ _ _ [_,_,_,_,_,_] _ _
                   simp (disch:=omega) only [and_self,Ai,Aj,A2,amL,amT,sA,sB,sF,↓reduceIte]
                   try (refine A6 [(2,.ptr 2 0),(3,.ptr 3 0),(4,Dk),(5,i64 0),(72,avT t),(10,.ptr 10 0)] (by decide) (Ed (b:=b) (bd:=99)) (Az rfl) (by decide) (fun res os2 hR hcl2 hlv2=>?_) ; obtain ⟨rfl,rfl⟩:=hR ; simp (disch:=omega) only [Bu,Be,ne_eq,Ad,A9,Ax,Bm,Bb,and_self,Ai,Aj,A2,Ca,Cm,Bw,Bx,Cl,Ma,Kn,M6,Int.sub_zero,Int.toNat_natCast,Cq,ld2,Cu,amL,amT,sA,sB,sC,sD,sE,sF,sG,sH,sI,sJ,sK,sL,sM,sN,sO,↓reduceIte,reduceCtorEq])
                   try (refine Cv (bd:=300) (by decide) (Fi (m:=103) ⟨by simp (disch:=omega) only [Bu,Be,ne_eq,Ad,A9,Ax,Bm,Bb,and_self,Ai,Aj,A2,Ca,Cm,Bw,Bx,Cl,Ma,Kn,M6,Int.sub_zero,Int.toNat_natCast,Cq,ld2,Cu,amL,amT,sA,sB,sC,sD,sE,sF,sG,sH,sI,sJ,sK,sL,sM,sN,sO,↓reduceIte,reduceCtorEq],by simp (disch:=omega) only [Bu,Be,ne_eq,Ad,A9,Ax,Bm,Bb,and_self,Ai,Aj,A2,Ca,Cm,Bw,Bx,Cl,Ma,Kn,M6,Int.sub_zero,Int.toNat_natCast,Cq,ld2,Cu,amL,amT,sA,sB,sC,sD,sE,sF,sG,sH,sI,sJ,sK,sL,sM,sN,sO,↓reduceIte,reduceCtorEq]⟩ hval hli) (fun q hq=>by simp (disch:=omega) only [Ad]; exact Az rfl q (by omega)) (by decide) (Ey _ _) ?_ ; rw [← hw] ; simp (disch:=omega) only [Bu,Be,ne_eq,Ad,A9,Ax,Bm,Bb,and_self,Ai,Aj,A2,Ca,Cm,Bw,Bx,Cl,Ma,Kn,M6,Int.sub_zero,Int.toNat_natCast,Cq,ld2,Cu,amL,amT,sA,sB,sC,sD,sE,sF,sG,sH,sI,sJ,sK,sL,sM,sN,sO,↓reduceIte,reduceCtorEq])
                   exact ⟨rfl,by simp (disch:=omega) only [A9,Ax,and_self,Ai,sF,↓reduceIte],by simp (disch:=omega) only [Bm,Bb,Aj,amL,sF,↓reduceIte] ; try exact congrArg AO.cells hpc⟩
                 · refine Ew (rem':=[3,4,5,6,8,9]) rfl rfl ?_
                   simp (disch:=omega) only [and_self,Aj,amL,amT,sA,sB,sF,↓reduceIte]
                   refine E0 (by kernel_rfl) ?_
                   show EL _ _ _ _ [_,_,_,_,_,_] _ _
                   simp (disch:=omega) only [Ai,amL,sF,sG,↓reduceIte]
                   try (refine A6 [(2,.ptr 2 0),(3,.ptr 3 0),(4,Dk),(5,i64 0),(72,avT t),(10,.ptr 10 0)] (by decide) (Ed (b:=b) (bd:=99)) (Az rfl) (by decide) (fun res os2 hR hcl2 hlv2=>?_) ; obtain ⟨rfl,rfl⟩:=hR ; simp (disch:=omega) only [Bu,Be,ne_eq,Ad,A9,Ax,Bm,Bb,and_self,Ai,Aj,A2,Ca,Cm,Bw,Bx,Cl,Ma,Kn,M6,Int.sub_zero,Int.toNat_natCast,Cq,ld2,Cu,amL,amT,sA,sB,sC,sD,sE,sF,sG,sH,sI,sJ,sK,sL,sM,sN,sO,↓reduceIte,reduceCtorEq])
                   try (refine Cv (bd:=300) (by decide) (Fi (m:=103) ⟨by simp (disch:=omega) only [Aj,sF,↓reduceIte],by simp (disch:=omega) only [Aj,sF,↓reduceIte]⟩ hval hli) (fun q hq=>by simp (disch:=omega) only []; exact Az rfl q (by omega)) (by decide) (Ey _ _) ?_ ; rw [← hw] ; simp (disch:=omega) only [Ai,Aj,A2,amL,amT,sA,sB,sF,↓reduceIte])
                   exact ⟨rfl,by simp (disch:=omega) only [A9,Ax,and_self,Ai,sF,↓reduceIte],by simp (disch:=omega) only [Bm,Bb,Aj,amL,sF,↓reduceIte] ; try exact congrArg AO.cells hpc⟩
               · refine Ew (rem':=[2,3,4,5,6,8,9]) rfl rfl ?_
                 simp (disch:=omega) only [and_self,Aj,amL,amT,sA,sB,sF,↓reduceIte]
                 refine E0 (by kernel_rfl) ?_
                 show EL _ _ _ _ [_,_,_,_,_,_,_] _ _
                 simp (disch:=omega) only [Ai,Aj,amL,amT,sA,sB,sF,sG,↓reduceIte]
                 try (refine A6 [(2,.ptr 2 0),(3,.ptr 3 0),(4,Dk),(5,i64 0),(72,avT t),(10,.ptr 10 0)] (by decide) (Ed (b:=b) (bd:=99)) (Az rfl) (by decide) (fun res os2 hR hcl2 hlv2=>?_) ; obtain ⟨rfl,rfl⟩:=hR ; simp (disch:=omega) only [Bu,Be,ne_eq,Ad,A9,Ax,Bm,Bb,and_self,Ai,Aj,A2,Ca,Cm,Bw,Bx,Cl,Ma,Kn,M6,Int.sub_zero,Int.toNat_natCast,Cq,ld2,Cu,amL,amT,sA,sB,sC,sD,sE,sF,sG,sH,sI,sJ,sK,sL,sM,sN,sO,↓reduceIte,reduceCtorEq])
                 try (refine Cv (bd:=300) (by decide) (Fi (m:=103) ⟨by simp (disch:=omega) only [Aj,sF,↓reduceIte],by simp (disch:=omega) only [Aj,sF,↓reduceIte]⟩ hval hli) (fun q hq=>by simp (disch:=omega) only []; exact Az rfl q (by omega)) (by decide) (Ey _ _) ?_ ; rw [← hw] ; simp (disch:=omega) only [Ai,Aj,A2,amL,amT,sA,sB,sF,↓reduceIte])
                 exact ⟨rfl,by simp (disch:=omega) only [A9,Ax,and_self,Ai,sF,↓reduceIte],by simp (disch:=omega) only [Bm,Bb,Aj,amL,sF,↓reduceIte] ; try exact congrArg AO.cells hpc⟩
             · refine Ew (rem':=[1,3,4,5,6,7,8,9]) rfl rfl ?_
               simp (disch:=omega) only [Ai,Aj,amL,amT,sA,sB,sF,↓reduceIte]
               refine Gb (ls:=[1,7]) rfl ⟨?_,?_,trivial⟩
               · refine Ew (rem':=[3,4,5,6,7,8,9]) rfl rfl ?_
                 simp (disch:=omega) only [Ai,amL,sF,sG,↓reduceIte]
                 refine A6 [(2,.ptr 2 0),(3,.ptr 3 0),(4,Dk),(5,i64 0),(72,avT t)] (by decide) (Ed (b:=b) (bd:=99)) (Az rfl) (by decide) (fun res os2 hR hcl2 hlv2=>?_)
                 obtain ⟨rfl,rfl⟩:=hR
                 simp (disch:=omega) only [A9,Ax,and_self,Ai,Aj,amL,sB,sF,↓reduceIte]
                 refine Gb (ls:=[3,7]) rfl ⟨?_,?_,trivial⟩
                 · refine Ew (rem':=[4,5,6,7,8,9]) rfl rfl ?_
                   simp (disch:=omega) only [Ai,amL,sF,sG,↓reduceIte]
                   (refine Cv (bd:=300) (by decide) (Fi (m:=103) ⟨by simp (disch:=omega) only [Aj,↓reduceIte],by simp (disch:=omega) only [Aj,sF,↓reduceIte]⟩ hval hli) (fun q hq=>by simp (disch:=omega) only []; exact Az rfl q (by omega)) (by decide) (Ey _ _) ?_ ; rw [← hw] ; simp (disch:=omega) only [amL])
                   refine E0 (by kernel_rfl) ?_
                   show EL _ _ _ _ [_,_,_,_,_,_] _ _
                   simp (disch:=omega) only [and_self,Ai,Aj,A2,amL,amT,sA,sB,sF,↓reduceIte]
                   try (refine A6 [(2,.ptr 2 0),(3,.ptr 3 0),(4,Dk),(5,i64 0),(72,avT t),(10,.ptr 10 0)] (by decide) (Ed (b:=b) (bd:=99)) (Az rfl) (by decide) (fun res os2 hR hcl2 hlv2=>?_) ; obtain ⟨rfl,rfl⟩:=hR ; simp (disch:=omega) only [Bu,Be,ne_eq,Ad,A9,Ax,Bm,Bb,and_self,Ai,Aj,A2,Ca,Cm,Bw,Bx,Cl,Ma,Kn,M6,Int.sub_zero,Int.toNat_natCast,Cq,ld2,Cu,amL,amT,sA,sB,sC,sD,sE,sF,sG,sH,sI,sJ,sK,sL,sM,sN,sO,↓reduceIte,reduceCtorEq])
                   try (refine Cv (bd:=300) (by decide) (Fi (m:=103) ⟨by simp (disch:=omega) only [Bu,Be,ne_eq,Ad,A9,Ax,Bm,Bb,and_self,Ai,Aj,A2,Ca,Cm,Bw,Bx,Cl,Ma,Kn,M6,Int.sub_zero,Int.toNat_natCast,Cq,ld2,Cu,amL,amT,sA,sB,sC,sD,sE,sF,sG,sH,sI,sJ,sK,sL,sM,sN,sO,↓reduceIte,reduceCtorEq],by simp (disch:=omega) only [Bu,Be,ne_eq,Ad,A9,Ax,Bm,Bb,and_self,Ai,Aj,A2,Ca,Cm,Bw,Bx,Cl,Ma,Kn,M6,Int.sub_zero,Int.toNat_natCast,Cq,ld2,Cu,amL,amT,sA,sB,sC,sD,sE,sF,sG,sH,sI,sJ,sK,sL,sM,sN,sO,↓reduceIte,reduceCtorEq]⟩ hval hli) (fun q hq=>by simp (disch:=omega) only [Ad]; exact Az rfl q (by omega)) (by decide) (Ey _ _) ?_ ; rw [← hw] ; simp (disch:=omega) only [Bu,Be,ne_eq,Ad,A9,Ax,Bm,Bb,and_self,Ai,Aj,A2,Ca,Cm,Bw,Bx,Cl,Ma,Kn,M6,Int.sub_zero,Int.toNat_natCast,Cq,ld2,Cu,amL,amT,sA,sB,sC,sD,sE,sF,sG,sH,sI,sJ,sK,sL,sM,sN,sO,↓reduceIte,reduceCtorEq])
                   exact ⟨rfl,by simp (disch:=omega) only [A9,Ax,and_self,Ai,sF,↓reduceIte],by simp (disch:=omega) only [Bm,Bb,Aj,amL,sF,↓reduceIte] ; try exact congrArg AO.cells hpc⟩
                 · refine Ew (rem':=[3,4,5,6,8,9]) rfl rfl ?_
                   simp (disch:=omega) only [and_self,Aj,amL,amT,sA,sB,sF,↓reduceIte]
                   refine E0 (by kernel_rfl) ?_
                   show EL _ _ _ _ [_,_,_,_,_,_] _ _
                   simp (disch:=omega) only [Ai,amL,sF,sG,↓reduceIte]
                   try (refine A6 [(2,.ptr 2 0),(3,.ptr 3 0),(4,Dk),(5,i64 0),(72,avT t),(10,.ptr 10 0)] (by decide) (Ed (b:=b) (bd:=99)) (Az rfl) (by decide) (fun res os2 hR hcl2 hlv2=>?_) ; obtain ⟨rfl,rfl⟩:=hR ; simp (disch:=omega) only [Bu,Be,ne_eq,Ad,A9,Ax,Bm,Bb,and_self,Ai,Aj,A2,Ca,Cm,Bw,Bx,Cl,Ma,Kn,M6,Int.sub_zero,Int.toNat_natCast,Cq,ld2,Cu,amL,amT,sA,sB,sC,sD,sE,sF,sG,sH,sI,sJ,sK,sL,sM,sN,sO,↓reduceIte,reduceCtorEq])
                   try (refine Cv (bd:=300) (by decide) (Fi (m:=103) ⟨by simp (disch:=omega) only [Aj,sF,↓reduceIte],by simp (disch:=omega) only [Aj,sF,↓reduceIte]⟩ hval hli) (fun q hq=>by simp (disch:=omega) only []; exact Az rfl q (by omega)) (by decide) (Ey _ _) ?_ ; rw [← hw] ; simp (disch:=omega) only [Ai,Aj,A2,amL,amT,sA,sB,sF,↓reduceIte])
                   exact ⟨rfl,by simp (disch:=omega) only [A9,Ax,and_self,Ai,sF,↓reduceIte],by simp (disch:=omega) only [Bm,Bb,Aj,amL,sF,↓reduceIte] ; try exact congrArg AO.cells hpc⟩
               · refine Ew (rem':=[1,3,4,5,6,8,9]) rfl rfl ?_
                 simp (disch:=omega) only [and_self,Aj,amL,amT,sA,sB,sF,↓reduceIte]
                 refine E0 (by kernel_rfl) ?_
                 show EL _ _ _ _ [_,_,_,_,_,_,_] _ _
                 simp (disch:=omega) only [Ai,amL,sF,sG,↓reduceIte]
                 try (refine A6 [(2,.ptr 2 0),(3,.ptr 3 0),(4,Dk),(5,i64 0),(72,avT t),(10,.ptr 10 0)] (by decide) (Ed (b:=b) (bd:=99)) (Az rfl) (by decide) (fun res os2 hR hcl2 hlv2=>?_) ; obtain ⟨rfl,rfl⟩:=hR ; simp (disch:=omega) only [A9,Ax,and_self,Ai,Aj,amL,sB,sF,sG,↓reduceIte])
                 try (refine Cv (bd:=300) (by decide) (Fi (m:=103) ⟨by simp (disch:=omega) only [Aj,↓reduceIte],by simp (disch:=omega) only [Aj,sF,↓reduceIte]⟩ hval hli) (fun q hq=>by simp (disch:=omega) only []; exact Az rfl q (by omega)) (by decide) (Ey _ _) ?_ ; rw [← hw] ; simp (disch:=omega) only [Ai,Aj,A2,amL,amT,sA,sB,sF,↓reduceIte])
                 exact ⟨rfl,by simp (disch:=omega) only [A9,Ax,and_self,Ai,sF,↓reduceIte],by simp (disch:=omega) only [Bm,Bb,Aj,amL,sF,↓reduceIte] ; try exact congrArg AO.cells hpc⟩
             · refine Ew (rem':=[1,2,3,4,5,6,8,9]) rfl rfl ?_
               simp (disch:=omega) only [and_self,Aj,amL,amT,sA,sB,sF,↓reduceIte]
               refine Gb (ls:=[1,2]) rfl ⟨?_,?_,trivial⟩
               · refine Ew (rem':=[2,3,4,5,6,8,9]) rfl rfl ?_
                 simp (disch:=omega) only [Ai,amL,sF,sG,↓reduceIte]
                 refine A6 [(2,.ptr 2 0),(3,.ptr 3 0),(4,Dk),(5,i64 0),(10,.ptr 10 0)] (by decide) (Ed (b:=b) (bd:=99)) (Az rfl) (by decide) (fun res os2 hR hcl2 hlv2=>?_)
                 obtain ⟨rfl,rfl⟩:=hR
                 simp (disch:=omega) only [A9,Ax,and_self,Ai,Aj,amL,sB,sF,↓reduceIte]
                 refine E0 (by kernel_rfl) ?_
                 show EL _ _ _ _ [_,_,_,_,_,_,_] _ _
                 simp (disch:=omega) only [Ai,Aj,amL,amT,sA,sB,sF,sG,↓reduceIte]
                 try (refine A6 [(2,.ptr 2 0),(3,.ptr 3 0),(4,Dk),(5,i64 0),(72,avT t),(10,.ptr 10 0)] (by decide) (Ed (b:=b) (bd:=99)) (Az rfl) (by decide) (fun res os2 hR hcl2 hlv2=>?_) ; obtain ⟨rfl,rfl⟩:=hR ; simp (disch:=omega) only [Bu,Be,ne_eq,Ad,A9,Ax,Bm,Bb,and_self,Ai,Aj,A2,Ca,Cm,Bw,Bx,Cl,Ma,Kn,M6,Int.sub_zero,Int.toNat_natCast,Cq,ld2,Cu,amL,amT,sA,sB,sC,sD,sE,sF,sG,sH,sI,sJ,sK,sL,sM,sN,sO,↓reduceIte,reduceCtorEq])
                 try (refine Cv (bd:=300) (by decide) (Fi (m:=103) ⟨by simp (disch:=omega) only [Aj,↓reduceIte],by simp (disch:=omega) only [Aj,sF,↓reduceIte]⟩ hval hli) (fun q hq=>by simp (disch:=omega) only []; exact Az rfl q (by omega)) (by decide) (Ey _ _) ?_ ; rw [← hw] ; simp (disch:=omega) only [Ai,Aj,A2,amL,amT,sA,sB,sF,↓reduceIte])
                 exact ⟨rfl,by simp (disch:=omega) only [A9,Ax,and_self,Ai,sF,↓reduceIte],by simp (disch:=omega) only [Bm,Bb,Aj,amL,sF,↓reduceIte] ; try exact congrArg AO.cells hpc⟩
               · refine Ew (rem':=[1,3,4,5,6,8,9]) rfl rfl ?_
                 simp (disch:=omega) only [Ai,Aj,amL,amT,sA,sB,sF,↓reduceIte]
                 refine E0 (by kernel_rfl) ?_
                 show EL _ _ _ _ [_,_,_,_,_,_,_] _ _
                 simp (disch:=omega) only [Ai,amL,sF,sG,↓reduceIte]
                 try (refine A6 [(2,.ptr 2 0),(3,.ptr 3 0),(4,Dk),(5,i64 0),(72,avT t),(10,.ptr 10 0)] (by decide) (Ed (b:=b) (bd:=99)) (Az rfl) (by decide) (fun res os2 hR hcl2 hlv2=>?_) ; obtain ⟨rfl,rfl⟩:=hR ; simp (disch:=omega) only [A9,Ax,and_self,Ai,Aj,amL,sB,sF,sG,↓reduceIte])
                 try (refine Cv (bd:=300) (by decide) (Fi (m:=103) ⟨by simp (disch:=omega) only [Aj,↓reduceIte],by simp (disch:=omega) only [Aj,sF,↓reduceIte]⟩ hval hli) (fun q hq=>by simp (disch:=omega) only []; exact Az rfl q (by omega)) (by decide) (Ey _ _) ?_ ; rw [← hw] ; simp (disch:=omega) only [Ai,Aj,A2,amL,amT,sA,sB,sF,↓reduceIte])
                 exact ⟨rfl,by simp (disch:=omega) only [A9,Ax,and_self,Ai,sF,↓reduceIte],by simp (disch:=omega) only [Bm,Bb,Aj,amL,sF,↓reduceIte] ; try exact congrArg AO.cells hpc⟩
           · refine Ew (rem':=[0,1,3,4,5,6,7,8,9]) rfl rfl ?_
             simp (disch:=omega) only [Ai,Aj,amL,amT,sA,sB,sF,↓reduceIte]
             refine Gb (ls:=[0,7]) rfl ⟨?_,?_,trivial⟩
             · refine Ew (rem':=[1,3,4,5,6,7,8,9]) rfl rfl ?_
               simp (disch:=omega) only [Ai,Aj,amL,amT,sA,sB,sF,↓reduceIte]
               refine Gb (ls:=[1,7]) rfl ⟨?_,?_,trivial⟩
               · refine Ew (rem':=[3,4,5,6,7,8,9]) rfl rfl ?_
                 simp (disch:=omega) only [Ai,amL,sG,↓reduceIte]
                 refine A6 [(2,.ptr 2 0),(3,.ptr 3 0),(4,Dk),(5,i64 0),(72,avT t)] (by decide) (Ed (b:=b) (bd:=99)) (Az rfl) (by decide) (fun res os2 hR hcl2 hlv2=>?_)
                 obtain ⟨rfl,rfl⟩:=hR
                 simp (disch:=omega) only [A9,Ax,and_self,Ai,Aj,amL,sB,sF,↓reduceIte]
                 refine Gb (ls:=[3,7]) rfl ⟨?_,?_,trivial⟩
                 · refine Ew (rem':=[4,5,6,7,8,9]) rfl rfl ?_
                   simp (disch:=omega) only [Ai,amL,sF,sG,↓reduceIte]
                   (refine Cv (bd:=300) (by decide) (Fi (m:=103) ⟨by simp (disch:=omega) only [Aj,↓reduceIte],by simp (disch:=omega) only [Aj,sF,↓reduceIte]⟩ hval hli) (fun q hq=>by simp (disch:=omega) only []; exact Az rfl q (by omega)) (by decide) (Ey _ _) ?_ ; rw [← hw] ; simp (disch:=omega) only [amL])
                   refine E0 (by kernel_rfl) ?_
                   show EL _ _ _ _ [_,_,_,_,_,_] _ _
                   simp (disch:=omega) only [and_self,Ai,Aj,A2,amL,amT,sA,sB,sF,↓reduceIte]
                   try (refine A6 [(2,.ptr 2 0),(3,.ptr 3 0),(4,Dk),(5,i64 0),(72,avT t),(10,.ptr 10 0)] (by decide) (Ed (b:=b) (bd:=99)) (Az rfl) (by decide) (fun res os2 hR hcl2 hlv2=>?_) ; obtain ⟨rfl,rfl⟩:=hR ; simp (disch:=omega) only [Bu,Be,ne_eq,Ad,A9,Ax,Bm,Bb,and_self,Ai,Aj,A2,Ca,Cm,Bw,Bx,Cl,Ma,Kn,M6,Int.sub_zero,Int.toNat_natCast,Cq,ld2,Cu,amL,amT,sA,sB,sC,sD,sE,sF,sG,sH,sI,sJ,sK,sL,sM,sN,sO,↓reduceIte,reduceCtorEq])
                   try (refine Cv (bd:=300) (by decide) (Fi (m:=103) ⟨by simp (disch:=omega) only [Bu,Be,ne_eq,Ad,A9,Ax,Bm,Bb,and_self,Ai,Aj,A2,Ca,Cm,Bw,Bx,Cl,Ma,Kn,M6,Int.sub_zero,Int.toNat_natCast,Cq,ld2,Cu,amL,amT,sA,sB,sC,sD,sE,sF,sG,sH,sI,sJ,sK,sL,sM,sN,sO,↓reduceIte,reduceCtorEq],by simp (disch:=omega) only [Bu,Be,ne_eq,Ad,A9,Ax,Bm,Bb,and_self,Ai,Aj,A2,Ca,Cm,Bw,Bx,Cl,Ma,Kn,M6,Int.sub_zero,Int.toNat_natCast,Cq,ld2,Cu,amL,amT,sA,sB,sC,sD,sE,sF,sG,sH,sI,sJ,sK,sL,sM,sN,sO,↓reduceIte,reduceCtorEq]⟩ hval hli) (fun q hq=>by simp (disch:=omega) only [Ad]; exact Az rfl q (by omega)) (by decide) (Ey _ _) ?_ ; rw [← hw] ; simp (disch:=omega) only [Bu,Be,ne_eq,Ad,A9,Ax,Bm,Bb,and_self,Ai,Aj,A2,Ca,Cm,Bw,Bx,Cl,Ma,Kn,M6,Int.sub_zero,Int.toNat_natCast,Cq,ld2,Cu,amL,amT,sA,sB,sC,sD,sE,sF,sG,sH,sI,sJ,sK,sL,sM,sN,sO,↓reduceIte,reduceCtorEq])
                   exact ⟨rfl,by simp (disch:=omega) only [A9,Ax,and_self,Ai,sF,↓reduceIte],by simp (disch:=omega) only [Bm,Bb,Aj,amL,sF,↓reduceIte] ; try exact congrArg AO.cells hpc⟩
                 · refine Ew (rem':=[3,4,5,6,8,9]) rfl rfl ?_
                   simp (disch:=omega) only [and_self,Aj,amL,amT,sA,sB,sF,↓reduceIte]
                   refine E0 (by kernel_rfl) ?_
                   show EL _ _ _ _ [_,_,_,_,_,_] _ _
                   simp (disch:=omega) only [Ai,amL,sF,sG,↓reduceIte]
                   try (refine A6 [(2,.ptr 2 0),(3,.ptr 3 0),(4,Dk),(5,i64 0),(72,avT t),(10,.ptr 10 0)] (by decide) (Ed (b:=b) (bd:=99)) (Az rfl) (by decide) (fun res os2 hR hcl2 hlv2=>?_) ; obtain ⟨rfl,rfl⟩:=hR ; simp (disch:=omega) only [Bu,Be,ne_eq,Ad,A9,Ax,Bm,Bb,and_self,Ai,Aj,A2,Ca,Cm,Bw,Bx,Cl,Ma,Kn,M6,Int.sub_zero,Int.toNat_natCast,Cq,ld2,Cu,amL,amT,sA,sB,sC,sD,sE,sF,sG,sH,sI,sJ,sK,sL,sM,sN,sO,↓reduceIte,reduceCtorEq])
                   try (refine Cv (bd:=300) (by decide) (Fi (m:=103) ⟨by simp (disch:=omega) only [Aj,sF,↓reduceIte],by simp (disch:=omega) only [Aj,sF,↓reduceIte]⟩ hval hli) (fun q hq=>by simp (disch:=omega) only []; exact Az rfl q (by omega)) (by decide) (Ey _ _) ?_ ; rw [← hw] ; simp (disch:=omega) only [Ai,Aj,A2,amL,amT,sA,sB,sF,↓reduceIte])
                   exact ⟨rfl,by simp (disch:=omega) only [A9,Ax,and_self,Ai,sF,↓reduceIte],by simp (disch:=omega) only [Bm,Bb,Aj,amL,sF,↓reduceIte] ; try exact congrArg AO.cells hpc⟩
               · refine Ew (rem':=[1,3,4,5,6,8,9]) rfl rfl ?_
                 simp (disch:=omega) only [and_self,Aj,amL,amT,sA,sB,sF,↓reduceIte]
                 refine E0 (by kernel_rfl) ?_
                 show EL _ _ _ _ [_,_,_,_,_,_,_] _ _
                 simp (disch:=omega) only [Ai,amL,sF,sG,↓reduceIte]
                 try (refine A6 [(2,.ptr 2 0),(3,.ptr 3 0),(4,Dk),(5,i64 0),(72,avT t),(10,.ptr 10 0)] (by decide) (Ed (b:=b) (bd:=99)) (Az rfl) (by decide) (fun res os2 hR hcl2 hlv2=>?_) ; obtain ⟨rfl,rfl⟩:=hR ; simp (disch:=omega) only [A9,Ax,and_self,Ai,Aj,amL,sB,sF,sG,↓reduceIte])
                 try (refine Cv (bd:=300) (by decide) (Fi (m:=103) ⟨by simp (disch:=omega) only [Aj,↓reduceIte],by simp (disch:=omega) only [Aj,sF,↓reduceIte]⟩ hval hli) (fun q hq=>by simp (disch:=omega) only []; exact Az rfl q (by omega)) (by decide) (Ey _ _) ?_ ; rw [← hw] ; simp (disch:=omega) only [Ai,Aj,A2,amL,amT,sA,sB,sF,↓reduceIte])
                 exact ⟨rfl,by simp (disch:=omega) only [A9,Ax,and_self,Ai,sF,↓reduceIte],by simp (disch:=omega) only [Bm,Bb,Aj,amL,sF,↓reduceIte] ; try exact congrArg AO.cells hpc⟩
             · refine Ew (rem':=[0,1,3,4,5,6,8,9]) rfl rfl ?_
               simp (disch:=omega) only [and_self,Aj,amL,amT,sA,sB,sF,↓reduceIte]
               refine E0 (by kernel_rfl) ?_
               show EL _ _ _ _ [_,_,_,_,_,_,_,_] _ _
               simp (disch:=omega) only [Ai,Aj,amL,amT,sA,sB,sF,sG,↓reduceIte]
               try (refine A6 [(2,.ptr 2 0),(3,.ptr 3 0),(4,Dk),(5,i64 0),(72,avT t),(10,.ptr 10 0)] (by decide) (Ed (b:=b) (bd:=99)) (Az rfl) (by decide) (fun res os2 hR hcl2 hlv2=>?_) ; obtain ⟨rfl,rfl⟩:=hR ; simp (disch:=omega) only [A9,Ax,and_self,Ai,Aj,amL,sB,sF,sG,↓reduceIte])
               try (refine Cv (bd:=300) (by decide) (Fi (m:=103) ⟨by simp (disch:=omega) only [Aj,↓reduceIte],by simp (disch:=omega) only [Aj,sF,↓reduceIte]⟩ hval hli) (fun q hq=>by simp (disch:=omega) only []; exact Az rfl q (by omega)) (by decide) (Ey _ _) ?_ ; rw [← hw] ; simp (disch:=omega) only [Ai,Aj,A2,amL,amT,sA,sB,sF,↓reduceIte])
               exact ⟨rfl,by simp (disch:=omega) only [A9,Ax,and_self,Ai,sF,↓reduceIte],by simp (disch:=omega) only [Bm,Bb,Aj,amL,sF,↓reduceIte] ; try exact congrArg AO.cells hpc⟩
           · refine Ew (rem':=[0,1,2,3,4,5,6,8,9]) rfl rfl ?_
             simp (disch:=omega) only [and_self,Aj,amL,amT,sA,sB,sF,↓reduceIte]
             refine Gb (ls:=[0,2]) rfl ⟨?_,?_,trivial⟩
             · refine Ew (rem':=[1,2,3,4,5,6,8,9]) rfl rfl ?_
               simp (disch:=omega) only [Ai,Aj,amL,amT,sA,sB,sF,↓reduceIte]
               refine Gb (ls:=[1,2]) rfl ⟨?_,?_,trivial⟩
               · refine Ew (rem':=[2,3,4,5,6,8,9]) rfl rfl ?_
                 simp (disch:=omega) only [Ai,amL,sG,↓reduceIte]
                 refine A6 [(2,.ptr 2 0),(3,.ptr 3 0),(4,Dk),(5,i64 0),(10,.ptr 10 0)] (by decide) (Ed (b:=b) (bd:=99)) (Az rfl) (by decide) (fun res os2 hR hcl2 hlv2=>?_)
                 obtain ⟨rfl,rfl⟩:=hR
                 simp (disch:=omega) only [A9,Ax,and_self,Ai,Aj,amL,sB,sF,↓reduceIte]
                 refine E0 (by kernel_rfl) ?_
                 show EL _ _ _ _ [_,_,_,_,_,_,_] _ _
                 simp (disch:=omega) only [Ai,Aj,amL,amT,sA,sB,sF,sG,↓reduceIte]
                 try (refine A6 [(2,.ptr 2 0),(3,.ptr 3 0),(4,Dk),(5,i64 0),(72,avT t),(10,.ptr 10 0)] (by decide) (Ed (b:=b) (bd:=99)) (Az rfl) (by decide) (fun res os2 hR hcl2 hlv2=>?_) ; obtain ⟨rfl,rfl⟩:=hR ; simp (disch:=omega) only [Bu,Be,ne_eq,Ad,A9,Ax,Bm,Bb,and_self,Ai,Aj,A2,Ca,Cm,Bw,Bx,Cl,Ma,Kn,M6,Int.sub_zero,Int.toNat_natCast,Cq,ld2,Cu,amL,amT,sA,sB,sC,sD,sE,sF,sG,sH,sI,sJ,sK,sL,sM,sN,sO,↓reduceIte,reduceCtorEq])
                 try (refine Cv (bd:=300) (by decide) (Fi (m:=103) ⟨by simp (disch:=omega) only [Aj,↓reduceIte],by simp (disch:=omega) only [Aj,sF,↓reduceIte]⟩ hval hli) (fun q hq=>by simp (disch:=omega) only []; exact Az rfl q (by omega)) (by decide) (Ey _ _) ?_ ; rw [← hw] ; simp (disch:=omega) only [Ai,Aj,A2,amL,amT,sA,sB,sF,↓reduceIte])
                 exact ⟨rfl,by simp (disch:=omega) only [A9,Ax,and_self,Ai,sF,↓reduceIte],by simp (disch:=omega) only [Bm,Bb,Aj,amL,sF,↓reduceIte] ; try exact congrArg AO.cells hpc⟩
               · refine Ew (rem':=[1,3,4,5,6,8,9]) rfl rfl ?_
                 simp (disch:=omega) only [Ai,Aj,amL,amT,sA,sB,sF,↓reduceIte]
                 refine E0 (by kernel_rfl) ?_
                 show EL _ _ _ _ [_,_,_,_,_,_,_] _ _
                 simp (disch:=omega) only [Ai,amL,sF,sG,↓reduceIte]
                 try (refine A6 [(2,.ptr 2 0),(3,.ptr 3 0),(4,Dk),(5,i64 0),(72,avT t),(10,.ptr 10 0)] (by decide) (Ed (b:=b) (bd:=99)) (Az rfl) (by decide) (fun res os2 hR hcl2 hlv2=>?_) ; obtain ⟨rfl,rfl⟩:=hR ; simp (disch:=omega) only [A9,Ax,and_self,Ai,Aj,amL,sB,sF,sG,↓reduceIte])
                 try (refine Cv (bd:=300) (by decide) (Fi (m:=103) ⟨by simp (disch:=omega) only [Aj,↓reduceIte],by simp (disch:=omega) only [Aj,sF,↓reduceIte]⟩ hval hli) (fun q hq=>by simp (disch:=omega) only []; exact Az rfl q (by omega)) (by decide) (Ey _ _) ?_ ; rw [← hw] ; simp (disch:=omega) only [Ai,Aj,A2,amL,amT,sA,sB,sF,↓reduceIte])
                 exact ⟨rfl,by simp (disch:=omega) only [A9,Ax,and_self,Ai,sF,↓reduceIte],by simp (disch:=omega) only [Bm,Bb,Aj,amL,sF,↓reduceIte] ; try exact congrArg AO.cells hpc⟩
             · refine Ew (rem':=[0,1,3,4,5,6,8,9]) rfl rfl ?_
               simp (disch:=omega) only [Ai,Aj,amL,amT,sA,sB,sF,↓reduceIte]
               refine E0 (by kernel_rfl) ?_
               show EL _ _ _ _ [_,_,_,_,_,_,_,_] _ _
               simp (disch:=omega) only [Ai,Aj,amL,amT,sA,sB,sF,sG,↓reduceIte]
               try (refine A6 [(2,.ptr 2 0),(3,.ptr 3 0),(4,Dk),(5,i64 0),(72,avT t),(10,.ptr 10 0)] (by decide) (Ed (b:=b) (bd:=99)) (Az rfl) (by decide) (fun res os2 hR hcl2 hlv2=>?_) ; obtain ⟨rfl,rfl⟩:=hR ; simp (disch:=omega) only [A9,Ax,and_self,Ai,Aj,amL,sB,sF,sG,↓reduceIte])
               try (refine Cv (bd:=300) (by decide) (Fi (m:=103) ⟨by simp (disch:=omega) only [Aj,↓reduceIte],by simp (disch:=omega) only [Aj,sF,↓reduceIte]⟩ hval hli) (fun q hq=>by simp (disch:=omega) only []; exact Az rfl q (by omega)) (by decide) (Ey _ _) ?_ ; rw [← hw] ; simp (disch:=omega) only [Ai,Aj,A2,amL,amT,sA,sB,sF,↓reduceIte])
               exact ⟨rfl,by simp (disch:=omega) only [A9,Ax,and_self,Ai,sF,↓reduceIte],by simp (disch:=omega) only [Bm,Bb,Aj,amL,sF,↓reduceIte] ; try exact congrArg AO.cells hpc⟩
         refine hK19 _ ?_
         refine Aa fun K20 hK20=>?_
         refine Aa fun K21 hK21=>?_
         refine Ab ?_
         simp (disch:=omega) only [Ai,amL,sA,sF,↓reduceIte]
         refine hK21 _ ?_
         refine Ag rfl (fun h=>?_) (fun h=>?_)
         ·first
          | exact Bool.noConfusion h
          |skip
           try simp only [Bool.not_eq_true'] at h
           refine Aa fun K22 hK22=>?_
           refine Ab ?_
           simp (disch:=omega) only [amL,sA]
           refine hK22 _ ?_
           refine Ae ?_
           try simp (disch:=omega) only [Ai,amL,sF,↓reduceIte]
           all_goals first | (rw [D9,if_neg (by assumption)]; done) | (have e9:k=b.vs.length:=(by omega) ; rw [D9,if_pos hf0,if_pos hli,if_pos hbt,List.take_of_length_le (by simp ; omega),e9,hw] ; done) | (rw [D9,if_pos hf0,if_pos hli,if_neg (by simpa using h)]; done) | (rw [D9,if_pos (by omega),if_neg (fun e=>by have:=Cg e; omega)]; done) | (rw [D9,if_pos (by omega),if_neg (fun e=>by have:=Li e (k:=k) (by omega); simp_all)]; done) | trace_state
         ·first
          | exact Bool.noConfusion h
          |skip
           try simp only [Bool.not_eq_false'] at h
           refine Ah ?_
           refine hK20 _ ?_
           refine Aa fun K23 hK23=>?_
           refine Ab ?_
           simp (disch:=omega) only [amL,sA]
           refine hK23 _ ?_
           refine Aa fun K24 hK24=>?_
           refine Aa fun K25 hK25=>?_
           refine Ab ?_
           have hbt:(Ns b t).2=true:=by simpa using h
           have hsm:=(hwo hbt).small
           have hv4:=hval.nv
           simp (disch:=omega) only [and_self,Ai,Aj,Ca,Cm,Bw,Bx,Cl,Int.sub_zero,Int.toNat_natCast,amL,amT,sA,sF,sH,sK,sL,sN,↓reduceIte,reduceCtorEq]
           refine hK25 _ ?_
           refine Ak ?_
           refine He 96 3 12 (by decide) rfl rfl ?_
           refine A5 (α:=Nat) (fun k=>⟨T [(2,.ptr 2 0),(12,.own 96 k),(81,.csl 10 0 2 b.vs.length),(82,i64 b.vs.length),(83,i64 (k:Int))],O [(2,.cells (cB b)),(10,.cells (cW w)),(96,.arr 3 ((w.take k).map fun l=>H5 (L1 l)))]⟩) (fun k=>b.vs.length - k) (fun k=>k≤b.vs.length) 0 ?_ ?_ (fun k hx26 K26 hK26=>?_)
           · exact Nat.zero_le _
           · refine B0 ?_ ?_ ?_ ?_ <;> (try simp (disch:=omega) only [A9,Ax,Bm,Bb,and_self,Ai,Aj,amL,sF,sG,↓reduceIte]); all_goals first | rfl | exact Ahq _ | trace_state
           have hk:=hx26
           refine Aa fun K27 hK27=>?_
           refine Ab ?_
           simp (disch:=omega) only [Ai,amL,amT,sA,sF,↓reduceIte]
           refine hK27 _ ?_
           refine Aa fun K28 hK28=>?_
           refine Ag rfl (fun h=>?_) (fun h=>?_)
           ·first
            | exact Bool.noConfusion h
            |skip
             try simp only [decide_eq_true_eq] at h
             refine Ah ?_
             refine hK28 _ ?_
             refine Aa fun K29 hK29=>?_
             refine Ak ?_
             refine Aa fun K30 hK30=>?_
             refine Ab ?_
             simp (disch:=omega) only [and_self,Ai,Aj,A2,Int.toNat_natCast,Cq,amL,amT,sA,sB,sE,sF,↓reduceIte]
             refine hK30 _ ?_
             refine Bg (by kernel_rfl) (by kernel_rfl) ?_
             simp (disch:=omega) only [Ai,Aj,amL,amT,sA,sB,sF,sG,↓reduceIte,reduceCtorEq]
             repeat' first | (refine Al (by kernel_rfl) rfl (Zx (w.getD k default) (hsm k)) (by first | exact .inl rfl | exact .inr (.inl rfl)) ?_ ; simp (disch:=omega) only [and_self,Ai,Aj,Cu,amL,amT,sA,sB,sC,sE,sF,↓reduceIte,reduceCtorEq])
             refine hK29 _ ?_
             refine Ab ?_
             simp (disch:=omega) only [Ai,amL,amT,sA,sF,↓reduceIte]
             refine hK26 (k+1) _ ?_ ?_ (B0 ?_ ?_ ?_ ?_)
             all_goals (try simp (disch:=omega) only [A9,Ax,Bm,Bb,and_self,Ai,Aj,amL,sF,sG,↓reduceIte])
             all_goals first | omega | exact congrArg (AO.arr 3) (T5 default (by omega)) | exact congrArg (AO.arr 3) (T5 default (by omega)).symm | exact Ahq _ | trace_state
           ·first
            | exact Bool.noConfusion h
            |skip
             try simp only [decide_eq_false_iff_not] at h
             refine Bc ?_
             refine hK24 _ ?_
             refine Aa fun K31 hK31=>?_
             refine Ab ?_
             simp (disch:=omega) only [Ai,amL,sA,sF,↓reduceIte]
             refine hK31 _ ?_
             refine Ae ?_
             try simp (disch:=omega) only [Ai,Aj,amL,sF,↓reduceIte]
             all_goals first | (rw [D9,if_neg (by assumption)]; done) | (have e9:k=b.vs.length:=(by omega) ; rw [D9,if_pos hf0,if_pos hli,if_pos hbt,List.take_of_length_le (by simp ; omega),e9,hw] ; done) | (rw [D9,if_pos hf0,if_pos hli,if_neg (by simpa using h)]; done) | (rw [D9,if_pos (by omega),if_neg (fun e=>by have:=Cg e; omega)]; done) | (rw [D9,if_pos (by omega),if_neg (fun e=>by have:=Li e (k:=k) (by omega); simp_all)]; done) | trace_state
section
variable {P:Program} {r:RB} {N:Nat} {K:St→Prop} {st:St}
theorem Agf {o:Oper} {t u:TypeId} {e:TypeId} {x:Operand} (ho:o.op=.binOp .eql t x (.const (.slice none 0 0)) u) (hd:∀ k,o.dst=some k→k < N) (ht:(Ac P t).k=.sl e) (hx:ev st.t x=Dk) (h:K (st.put o.dst (bl true))):Cj P r N o st K:=by
  intro B S θ M w a Q hs
  refine ⟨fun _ _=>trivial,?_⟩
  rw [Oper.semAt_eq _ _ _ (by rw [ho]; intro c h; cases h)]
  have hv:a.eval x=.slice none 0 0:=by
    have hr:=Ar hs x
    rw [hx] at hr
    generalize a.eval x=v at hr
    cases hr with
    | p _ _ hp=>cases hp; rfl
  have hrun:(execOp a.eval o).run P w=.ok (.value (.bool true)) w:=by
    simp only [execOp,ho,hv]
    refine L9 ?_
    simp [Act.eval,eqGuard,binOp,run_equal_slice_nil w t e none 0 0 (E2 ht)]
  rw [hrun]
  exact ⟨_,h,(Adv.put hs hd (.p _ _ (.val _ rfl)) (AV.lives_p _ _)).toM,by cases o.dst <;> rfl⟩
theorem Qf {Q:AEx→St→Prop} {id d0 d1 i:Nat} {t u e ty0 ty1:TypeId} {pos0 pos1:String} {af0 af1:Array Edge} (h0:d0 < N) (h1:d1 < N) (ht:(Ac P t).k=.sl e) (hx:st.t i=Dk)
    (h:Q .normal ((st.put (some d0) (st.t i)).put (some d1) (bl true))) :
    AWP P r N (.region id [(⟨some d0,.move (.tmp i),ty0,pos0,af0,none⟩:Oper),⟨some d1,.binOp .eql t (.tmp d0) (.const (.slice none 0 0)) u,ty1,pos1,af1,none⟩].toArray false) st Q:=by
  refine Dr (AL.step (F9 ?_))
  rw [Aix]
  refine ⟨by simpa using h0,AL.step (Agf rfl (fun k hk=>by cases hk; exact h1) ht (x:=.tmp d0) ?_ (AL.nil h))⟩
  show (st.put (some d0) (st.t i)).t d0=Dk
  have:(st.put (some d0) (st.t i)).t d0=st.t i:=by simp [St.put,upd]
  rw [this]; exact hx
end
theorem Arg (es:List (List PV)) (hk:(es.all fun c=>decide (c.length=1))=true) (hv:(es.all fun e=>e.all PV.isVal)=true) (hl:es.length < 1000000):Ki Tryz.prog 131 [.p (.sl es)] 1 es:=by
  refine L3 (v:=[]) (q:=[]) (N:=8) (i:=2) Tryz.func131 rfl rfl rfl rfl ?_
  refine Aa fun K1 hK1=>?_
  refine Ab ?_
  simp (disch:=omega) only [amL,sA]
  refine hK1 _ ?_
  refine Aa fun K2 hK2=>?_
  refine Aa fun K3 hK3=>?_
  refine Si (e:=3) (by decide) (by decide) (by simp only [amT]) rfl (fun b hb=>?_)
  simp (disch:=omega) only [amL,↓reduceIte,reduceCtorEq]
  refine hK3 _ ?_
  refine Ag rfl (fun h=>?_) (fun h=>?_)
  ·first
   | exact Bool.noConfusion h
   |skip
    try simp only [Bool.not_eq_true',decide_eq_true_eq,decide_eq_false_iff_not,Bool.and_eq_true,Bool.not_eq_false',Bool.not_not,decide_not,Bool.not_true,Bool.not_false] at h
    refine Aa fun K4 hK4=>?_
    refine Ab ?_
    simp (disch:=omega) only [amL,sA]
    refine hK4 _ ?_
    refine Ae ?_
    try simp (disch:=omega) only [Ep,amL,↓reduceIte]
    first | ((have e:es=[]:=by have:=hb h; simpa using this); subst e; rfl) | exact Lj rfl (by simp) hv | trace_state
  ·first
   | exact Bool.noConfusion h
   |skip
    try simp only [Bool.not_eq_true',decide_eq_true_eq,decide_eq_false_iff_not,Bool.and_eq_true,Bool.not_eq_false',Bool.not_not,decide_not,Bool.not_true,Bool.not_false] at h
    refine Ah ?_
    refine hK2 _ ?_
    refine Aa fun K5 hK5=>?_
    refine Ab ?_
    simp (disch:=omega) only [hk,amL,amT,sA,sF,↓reduceIte,reduceCtorEq]
    refine hK5 _ ?_
    refine Ae ?_
    try simp (disch:=omega) only [Ep,amL,↓reduceIte]
    first | ((have e:es=[]:=by have:=hb h; simpa using this); subst e; rfl) | exact Lj rfl (by simp) hv | trace_state
theorem Adf (es:List (List PV)) (hk:(es.all fun c=>decide (c.length=5))=true) (hv:(es.all fun e=>e.all PV.isVal)=true) (hl:es.length < 1000000):Ki Tryz.prog 87 [.p (.sl es)] 5 es:=by
  refine L3 (v:=[]) (q:=[]) (N:=8) (i:=2) Tryz.func87 rfl rfl rfl rfl ?_
  refine Aa fun K1 hK1=>?_
  refine Ab ?_
  simp (disch:=omega) only [amL,sA]
  refine hK1 _ ?_
  refine Aa fun K2 hK2=>?_
  refine Aa fun K3 hK3=>?_
  refine Si (e:=135) (by decide) (by decide) (by simp only [amT]) rfl (fun b hb=>?_)
  simp (disch:=omega) only [amL,↓reduceIte,reduceCtorEq]
  refine hK3 _ ?_
  refine Ag rfl (fun h=>?_) (fun h=>?_)
  ·first
   | exact Bool.noConfusion h
   |skip
    try simp only [Bool.not_eq_true',decide_eq_true_eq,decide_eq_false_iff_not,Bool.and_eq_true,Bool.not_eq_false',Bool.not_not,decide_not,Bool.not_true,Bool.not_false] at h
    refine Aa fun K4 hK4=>?_
    refine Ab ?_
    simp (disch:=omega) only [amL,sA]
    refine hK4 _ ?_
    refine Ae ?_
    try simp (disch:=omega) only [Ep,amL,↓reduceIte]
    first | ((have e:es=[]:=by have:=hb h; simpa using this); subst e; rfl) | exact Lj rfl (by simp) hv | trace_state
  ·first
   | exact Bool.noConfusion h
   |skip
    try simp only [Bool.not_eq_true',decide_eq_true_eq,decide_eq_false_iff_not,Bool.and_eq_true,Bool.not_eq_false',Bool.not_not,decide_not,Bool.not_true,Bool.not_false] at h
    refine Ah ?_
    refine hK2 _ ?_
    refine Aa fun K5 hK5=>?_
    refine Ab ?_
    simp (disch:=omega) only [hk,amL,amT,sA,sB,sF,↓reduceIte,reduceCtorEq]
    refine hK5 _ ?_
    refine Ae ?_
    try simp (disch:=omega) only [Ep,amL,↓reduceIte]
    first | ((have e:es=[]:=by have:=hb h; simpa using this); subst e; rfl) | exact Lj rfl (by simp) hv | trace_state
theorem Al8:Ki Tryz.prog 131 [Dk] 1 []:=by
  refine L3 (v:=[]) (q:=[]) (N:=8) (i:=2) Tryz.func131 rfl rfl rfl rfl ?_
  refine Aa fun K1 hK1=>?_
  refine Ab ?_
  simp (disch:=omega) only [amL,sA]
  refine hK1 _ ?_
  refine Aa fun K2 hK2=>?_
  refine Aa fun K3 hK3=>?_
  refine Qf (e:=3) (by decide) (by decide) (by simp only [amT]) rfl ?_
  simp (disch:=omega) only [amL,↓reduceIte,reduceCtorEq]
  refine hK3 _ ?_
  refine Ag rfl (fun h=>?_) (fun h=>?_)
  ·first
   | exact Bool.noConfusion h
   |skip
    try simp only [] at h
    refine Aa fun K4 hK4=>?_
    refine Ab ?_
    simp (disch:=omega) only [amL,sA]
    refine hK4 _ ?_
    refine Ae ?_
    try simp (disch:=omega) only [Ep,amL,↓reduceIte]
    first | rfl | trace_state
  ·first
   | exact Bool.noConfusion h
   |skip
    try simp only [Bool.not_eq_true',decide_eq_true_eq,decide_eq_false_iff_not,Bool.and_eq_true,Bool.not_eq_false',Bool.not_not,decide_not,Bool.not_true,Bool.not_false] at h
    refine Ah ?_
    refine hK2 _ ?_
    refine Aa fun K5 hK5=>?_
    refine Ab ?_
    simp (disch:=omega) only [Kz,Ep,amL,amT,sA,sB,sC,sD,sE,sF,sG,sH,sI,sJ,sK,sL,sM,sN,sO,↓reduceIte,reduceCtorEq]
    refine hK5 _ ?_
    refine Ae ?_
    try simp (disch:=omega) only [Kz,Ep,amL,amT,sA,sB,sC,sD,sE,sF,sG,sH,sI,sJ,sK,sL,sM,sN,sO,↓reduceIte,reduceCtorEq]
    first | rfl | trace_state
theorem Alg:Ki Tryz.prog 87 [Dk] 5 []:=by
  refine L3 (v:=[]) (q:=[]) (N:=8) (i:=2) Tryz.func87 rfl rfl rfl rfl ?_
  refine Aa fun K1 hK1=>?_
  refine Ab ?_
  simp (disch:=omega) only [amL,sA]
  refine hK1 _ ?_
  refine Aa fun K2 hK2=>?_
  refine Aa fun K3 hK3=>?_
  refine Qf (e:=135) (by decide) (by decide) (by simp only [amT]) rfl ?_
  simp (disch:=omega) only [amL,↓reduceIte,reduceCtorEq]
  refine hK3 _ ?_
  refine Ag rfl (fun h=>?_) (fun h=>?_)
  ·first
   | exact Bool.noConfusion h
   |skip
    try simp only [] at h
    refine Aa fun K4 hK4=>?_
    refine Ab ?_
    simp (disch:=omega) only [amL,sA]
    refine hK4 _ ?_
    refine Ae ?_
    try simp (disch:=omega) only [Ep,amL,↓reduceIte]
    first | rfl | trace_state
  ·first
   | exact Bool.noConfusion h
   |skip
    try simp only [Bool.not_eq_true',decide_eq_true_eq,decide_eq_false_iff_not,Bool.and_eq_true,Bool.not_eq_false',Bool.not_not,decide_not,Bool.not_true,Bool.not_false] at h
    refine Ah ?_
    refine hK2 _ ?_
    refine Aa fun K5 hK5=>?_
    refine Ab ?_
    simp (disch:=omega) only [Kz,Ep,amL,amT,sA,sB,sC,sD,sE,sF,sG,sH,sI,sJ,sK,sL,sM,sN,sO,↓reduceIte,reduceCtorEq]
    refine hK5 _ ?_
    refine Ae ?_
    try simp (disch:=omega) only [Kz,Ep,amL,amT,sA,sB,sC,sD,sE,sF,sG,sH,sI,sJ,sK,sL,sM,sN,sO,↓reduceIte,reduceCtorEq]
    first | rfl | trace_state
end AM.Try
end
/- What closed runs go by: the types, the functions that share objects, slices.Clone, the map, equality. -/
section
namespace AM.Try
open Go AM AM.Wort Go.Proofs
set_option maxRecDepth 100000
def Baf:List (Option TI)→Nat→Option TI
 | [],_=>none
 | x :: _,0=>x
 | _ :: l,i+1=>Baf l i
def Bc8:List (Option TI):=[none,some ⟨.other,1,8,[.nilFunc]⟩,some ⟨.int .i64,1,8,[.int .i64 0]⟩,some ⟨.int .i64,1,8,[.int .i64 0]⟩,some ⟨.bool,1,1,[.bool false]⟩,some ⟨.int .u8,1,1,[.int .u8 0]⟩,some ⟨.int .u8,1,1,[.int .u8 0]⟩,some ⟨.struct [(0,2),(1,3),(2,4),(3,6)],4,24,[.int .i64 0,.int .i64 0,.bool false,.int .u8 0]⟩,some ⟨.struct [(0,2),(1,3),(2,4),(3,6)],4,24,[.int .i64 0,.int .i64 0,.bool false,.int .u8 0]⟩,none,none,none,some ⟨.int .u64,1,8,[.int .u64 0]⟩,none,none,some ⟨.other,1,8,[.pointer none]⟩,some ⟨.other,1,8,[.pointer none]⟩,some ⟨.other,1,8,[.pointer none]⟩,some ⟨.struct [(0,17)],1,8,[.pointer none]⟩,some ⟨.struct [(0,17)],1,8,[.pointer none]⟩,some ⟨.other,1,16,[.nilIface]⟩,some ⟨.int .i32,1,4,[.int .i32 0]⟩,some ⟨.sl 92,1,24,[.slice none 0 0]⟩,some ⟨.sl 94,1,24,[.slice none 0 0]⟩,some ⟨.struct [(0,22),(1,23)],2,48,[.slice none 0 0,.slice none 0 0]⟩,some ⟨.struct [(0,22),(1,23)],2,48,[.slice none 0 0,.slice none 0 0]⟩,some ⟨.sl 3,1,24,[.slice none 0 0]⟩,some ⟨.struct [(0,26),(1,26),(2,26)],3,72,[.slice none 0 0,.slice none 0 0,.slice none 0 0]⟩,some ⟨.struct [(0,26),(1,26),(2,26)],3,72,[.slice none 0 0,.slice none 0 0,.slice none 0 0]⟩,some ⟨.other,1,8,[.nilFunc]⟩,some ⟨.other,1,8,[.nilFunc]⟩,some ⟨.sl 90,1,24,[.slice none 0 0]⟩,some ⟨.int .i64,1,8,[.int .i64 0]⟩,none,some ⟨.other,1,8,[.nilFunc]⟩,some ⟨.sl 128,1,24,[.slice none 0 0]⟩,some ⟨.sl 135,1,24,[.slice none 0 0]⟩,some ⟨.struct [(0,35),(1,36)],2,48,[.slice none 0 0,.slice none 0 0]⟩,some ⟨.struct [(0,35),(1,36)],2,48,[.slice none 0 0,.slice none 0 0]⟩,some ⟨.other,1,8,[.nilFunc]⟩,some ⟨.struct [(0,26),(1,26),(2,26)],3,72,[.slice none 0 0,.slice none 0 0,.slice none 0 0]⟩,some ⟨.other,1,8,[.nilFunc]⟩,some ⟨.other,1,8,[.nilFunc]⟩,some ⟨.other,1,8,[.nilFunc]⟩,some ⟨.sl 137,1,24,[.slice none 0 0]⟩,none,some ⟨.other,1,8,[.nilFunc]⟩,some ⟨.other,1,8,[.nilFunc]⟩,some ⟨.other,1,8,[.nilFunc]⟩,some ⟨.sl 60,1,24,[.slice none 0 0]⟩,none,some ⟨.other,1,8,[.nilFunc]⟩,some ⟨.sl 44,1,24,[.slice none 0 0]⟩,some ⟨.other,1,8,[.nilFunc]⟩,some ⟨.struct [(0,3),(1,3)],2,16,[.int .i64 0,.int .i64 0]⟩,some ⟨.struct [(0,3),(1,3)],2,16,[.int .i64 0,.int .i64 0]⟩,none,some ⟨.other,1,8,[.nilFunc]⟩,some ⟨.struct [(0,3),(1,3)],2,16,[.int .i64 0,.int .i64 0]⟩,some ⟨.struct [(0,58),(2,58),(4,58)],6,48,[.int .i64 0,.int .i64 0,.int .i64 0,.int .i64 0,.int .i64 0,.int .i64 0]⟩,some ⟨.struct [(0,58),(2,58),(4,58)],6,48,[.int .i64 0,.int .i64 0,.int .i64 0,.int .i64 0,.int .i64 0,.int .i64 0]⟩,some ⟨.other,1,8,[.nilFunc]⟩,some ⟨.other,1,8,[.nilFunc]⟩,some ⟨.sl 70,1,24,[.slice none 0 0]⟩,none,some ⟨.other,1,8,[.nilFunc]⟩,some ⟨.sl 103,1,24,[.slice none 0 0]⟩,some ⟨.other,1,8,[.nilFunc]⟩,some ⟨.other,1,8,[.nilFunc]⟩,some ⟨.struct [(0,3),(1,55),(3,55)],5,40,[.int .i64 0,.int .i64 0,.int .i64 0,.int .i64 0,.int .i64 0]⟩,some ⟨.struct [(0,3),(1,55),(3,55)],5,40,[.int .i64 0,.int .i64 0,.int .i64 0,.int .i64 0,.int .i64 0]⟩,some ⟨.other,1,8,[.nilFunc]⟩,some ⟨.other,1,8,[.nilFunc]⟩,some ⟨.other,1,8,[.nilFunc]⟩,none,some ⟨.other,1,8,[.nilFunc]⟩,some ⟨.other,1,8,[.nilFunc]⟩,some ⟨.other,1,8,[.nilFunc]⟩,some ⟨.other,1,8,[.nilFunc]⟩,some ⟨.other,1,8,[.nilFunc]⟩,some ⟨.other,1,8,[.nilFunc]⟩,some ⟨.other,1,8,[.nilFunc]⟩,some ⟨.other,1,8,[.nilFunc]⟩,some ⟨.int .u16,1,2,[.int .u16 0]⟩,none,some ⟨.other,1,8,[.nilFunc]⟩,some ⟨.other,1,8,[.nilFunc]⟩,some ⟨.other,1,8,[.nilFunc]⟩,some ⟨.other,1,8,[.nilFunc]⟩,some ⟨.struct [(0,3),(1,3),(2,3)],3,24,[.int .i64 0,.int .i64 0,.int .i64 0]⟩,some ⟨.struct [(0,3),(1,3),(2,3)],3,24,[.int .i64 0,.int .i64 0,.int .i64 0]⟩,some ⟨.struct [(0,55),(2,55),(4,3)],5,40,[.int .i64 0,.int .i64 0,.int .i64 0,.int .i64 0,.int .i64 0]⟩,some ⟨.struct [(0,55),(2,55),(4,3)],5,40,[.int .i64 0,.int .i64 0,.int .i64 0,.int .i64 0,.int .i64 0]⟩,some ⟨.struct [(0,3),(1,3),(2,3),(3,55)],5,40,[.int .i64 0,.int .i64 0,.int .i64 0,.int .i64 0,.int .i64 0]⟩,some ⟨.struct [(0,3),(1,3),(2,3),(3,55)],5,40,[.int .i64 0,.int .i64 0,.int .i64 0,.int .i64 0,.int .i64 0]⟩,some ⟨.other,1,8,[.nilFunc]⟩,some ⟨.arr 6 4,6,6,[.bool false,.bool false,.bool false,.bool false,.bool false,.bool false]⟩,some ⟨.other,1,8,[.nilFunc]⟩,none,some ⟨.other,1,8,[.nilFunc]⟩,some ⟨.int .u64,1,8,[.int .u64 0]⟩,some ⟨.other,1,8,[.nilFunc]⟩,some ⟨.struct [(0,3),(1,58),(3,58)],5,40,[.int .i64 0,.int .i64 0,.int .i64 0,.int .i64 0,.int .i64 0]⟩,some ⟨.struct [(0,3),(1,58),(3,58)],5,40,[.int .i64 0,.int .i64 0,.int .i64 0,.int .i64 0,.int .i64 0]⟩,some ⟨.other,1,8,[.nilFunc]⟩,some ⟨.other,1,8,[.nilFunc]⟩,some ⟨.other,1,8,[.nilFunc]⟩,some ⟨.other,1,8,[.nilFunc]⟩,some ⟨.other,1,8,[.nilFunc]⟩,some ⟨.other,1,8,[.nilFunc]⟩,none,some ⟨.other,1,8,[.nilFunc]⟩,some ⟨.other,1,8,[.nilFunc]⟩,some ⟨.sl 58,1,24,[.slice none 0 0]⟩,some ⟨.other,1,8,[.nilFunc]⟩,some ⟨.other,1,8,[.nilFunc]⟩,some ⟨.other,1,8,[.nilFunc]⟩,some ⟨.struct [(0,3),(1,3)],2,16,[.int .i64 0,.int .i64 0]⟩,some ⟨.struct [(0,3),(1,3)],2,16,[.int .i64 0,.int .i64 0]⟩,some ⟨.arr 4 118,8,64,[.int .i64 0,.int .i64 0,.int .i64 0,.int .i64 0,.int .i64 0,.int .i64 0,.int .i64 0,.int .i64 0]⟩,some ⟨.arr 4 118,8,64,[.int .i64 0,.int .i64 0,.int .i64 0,.int .i64 0,.int .i64 0,.int .i64 0,.int .i64 0,.int .i64 0]⟩,none,some ⟨.other,1,8,[.pointer none]⟩,some ⟨.other,1,8,[.nilFunc]⟩,some ⟨.other,1,8,[.nilFunc]⟩,some ⟨.sl 118,1,24,[.slice none 0 0]⟩,some ⟨.other,1,8,[.nilFunc]⟩,some ⟨.struct [(0,58),(2,58),(4,3)],5,40,[.int .i64 0,.int .i64 0,.int .i64 0,.int .i64 0,.int .i64 0]⟩,some ⟨.struct [(0,58),(2,58),(4,3)],5,40,[.int .i64 0,.int .i64 0,.int .i64 0,.int .i64 0,.int .i64 0]⟩,some ⟨.other,1,8,[.nilFunc]⟩,some ⟨.other,1,8,[.nilFunc]⟩,some ⟨.other,1,8,[.nilFunc]⟩,some ⟨.other,1,8,[.nilFunc]⟩,some ⟨.other,1,8,[.nilFunc]⟩,some ⟨.struct [(0,3),(1,3),(2,3),(3,58)],5,40,[.int .i64 0,.int .i64 0,.int .i64 0,.int .i64 0,.int .i64 0]⟩,some ⟨.struct [(0,3),(1,3),(2,3),(3,58)],5,40,[.int .i64 0,.int .i64 0,.int .i64 0,.int .i64 0,.int .i64 0]⟩,some ⟨.other,1,8,[.nilFunc]⟩,some ⟨.struct [(0,3),(1,3),(2,3)],3,24,[.int .i64 0,.int .i64 0,.int .i64 0]⟩,some ⟨.other,1,8,[.nilFunc]⟩,some ⟨.other,1,8,[.nilFunc]⟩,some ⟨.other,1,8,[.nilFunc]⟩,some ⟨.other,1,8,[.pointer none]⟩,some ⟨.other,1,8,[.nilFunc]⟩,some ⟨.other,1,8,[.nilFunc]⟩,some ⟨.other,1,8,[.nilFunc]⟩,some ⟨.other,1,8,[.nilFunc]⟩,some ⟨.other,1,8,[.nilFunc]⟩,some ⟨.other,1,8,[.nilFunc]⟩,none,some ⟨.other,1,8,[.nilFunc]⟩,some ⟨.other,1,8,[.nilFunc]⟩,some ⟨.other,1,8,[.nilFunc]⟩,some ⟨.other,1,8,[.nilFunc]⟩,some ⟨.other,1,8,[.nilFunc]⟩,some ⟨.other,1,8,[.nilFunc]⟩,some ⟨.other,1,8,[.nilFunc]⟩,some ⟨.struct [(0,155)],1,8,[.nilFunc]⟩,some ⟨.struct [(0,155)],1,8,[.nilFunc]⟩,some ⟨.arr 3 157,3,24,[.nilFunc,.nilFunc,.nilFunc]⟩,some ⟨.other,1,8,[.nilFunc]⟩,some ⟨.other,1,8,[.pointer none]⟩,none,some ⟨.other,1,8,[.nilFunc]⟩,some ⟨.other,1,8,[.nilFunc]⟩,some ⟨.other,1,8,[.nilFunc]⟩,some ⟨.other,1,8,[.nilFunc]⟩,some ⟨.other,1,8,[.nilFunc]⟩,some ⟨.other,1,8,[.pointer none]⟩,some ⟨.other,1,8,[.nilFunc]⟩,some ⟨.other,1,8,[.nilFunc]⟩,some ⟨.other,1,8,[.nilFunc]⟩,some ⟨.other,1,8,[.nilFunc]⟩,some ⟨.other,1,8,[.nilFunc]⟩,some ⟨.other,1,8,[.nilFunc]⟩,some ⟨.other,1,8,[.nilFunc]⟩,some ⟨.mp 3 4,1,8,[.map none]⟩,some ⟨.sl 26,1,24,[.slice none 0 0]⟩,some ⟨.other,1,8,[.nilFunc]⟩,some ⟨.mp 194 196,1,8,[.map none]⟩,some ⟨.struct [(0,38),(2,178)],3,56,[.slice none 0 0,.slice none 0 0,.map none]⟩,some ⟨.struct [(0,38),(2,178)],3,56,[.slice none 0 0,.slice none 0 0,.map none]⟩,some ⟨.other,1,8,[.nilFunc]⟩,some ⟨.other,1,8,[.nilFunc]⟩,some ⟨.other,1,8,[.nilFunc]⟩,some ⟨.other,1,8,[.nilFunc]⟩,some ⟨.other,1,8,[.nilFunc]⟩,some ⟨.other,1,8,[.nilFunc]⟩,some ⟨.other,1,8,[.nilFunc]⟩,some ⟨.other,1,8,[.nilFunc]⟩,some ⟨.other,1,8,[.nilFunc]⟩,some ⟨.other,1,8,[.nilFunc]⟩,some ⟨.other,1,8,[.nilFunc]⟩,some ⟨.other,1,8,[.nilFunc]⟩,some ⟨.struct [(0,135),(5,3),(6,120)],14,112,[.int .i64 0,.int .i64 0,.int .i64 0,.int .i64 0,.int .i64 0,.int .i64 0,.int .i64 0,.int .i64 0,.int .i64 0,.int .i64 0,.int .i64 0,.int .i64 0,.int .i64 0,.int .i64 0]⟩,some ⟨.struct [(0,135),(5,3),(6,120)],14,112,[.int .i64 0,.int .i64 0,.int .i64 0,.int .i64 0,.int .i64 0,.int .i64 0,.int .i64 0,.int .i64 0,.int .i64 0,.int .i64 0,.int .i64 0,.int .i64 0,.int .i64 0,.int .i64 0]⟩,some ⟨.struct [(0,120),(8,4)],9,72,[.int .i64 0,.int .i64 0,.int .i64 0,.int .i64 0,.int .i64 0,.int .i64 0,.int .i64 0,.int .i64 0,.bool false]⟩,some ⟨.struct [(0,120),(8,4)],9,72,[.int .i64 0,.int .i64 0,.int .i64 0,.int .i64 0,.int .i64 0,.int .i64 0,.int .i64 0,.int .i64 0,.bool false]⟩,none,some ⟨.other,1,8,[.nilFunc]⟩,some ⟨.other,1,8,[.nilFunc]⟩,some ⟨.other,1,8,[.nilFunc]⟩,some ⟨.other,1,8,[.nilFunc]⟩,some ⟨.other,1,8,[.nilFunc]⟩,some ⟨.other,1,8,[.nilFunc]⟩,some ⟨.other,1,8,[.nilFunc]⟩,some ⟨.other,1,8,[.nilFunc]⟩,some ⟨.other,1,8,[.pointer none]⟩,some ⟨.other,1,8,[.nilFunc]⟩,some ⟨.other,1,8,[.nilFunc]⟩,some ⟨.other,1,8,[.nilFunc]⟩,none,none,some ⟨.arr 0 16,0,0,[]⟩,some ⟨.struct [(0,212)],0,0,[]⟩,some ⟨.struct [(0,212)],0,0,[]⟩,some ⟨.int .u32,1,4,[.int .u32 0]⟩,some ⟨.int .u8,1,1,[.int .u8 0]⟩,some ⟨.int .u8,1,1,[.int .u8 0]⟩,some ⟨.other,1,8,[.nilFunc]⟩,some ⟨.other,1,8,[.pointer none]⟩,some ⟨.int .i32,1,4,[.int .i32 0]⟩,some ⟨.int .i32,1,4,[.int .i32 0]⟩,some ⟨.struct [(0,12),(1,12),(2,215),(3,216),(4,5),(5,5),(6,217),(7,218),(8,219),(9,220),(10,221)],11,48,[.int .u64 0,.int .u64 0,.int .u32 0,.int .u8 0,.int .u8 0,.int .u8 0,.int .u8 0,.nilFunc,.pointer none,.int .i32 0,.int .i32 0]⟩,some ⟨.struct [(0,12),(1,12),(2,215),(3,216),(4,5),(5,5),(6,217),(7,218),(8,219),(9,220),(10,221)],11,48,[.int .u64 0,.int .u64 0,.int .u32 0,.int .u8 0,.int .u8 0,.int .u8 0,.int .u8 0,.nilFunc,.pointer none,.int .i32 0,.int .i32 0]⟩,some ⟨.other,1,8,[.pointer none]⟩]
noncomputable def tyX (t:TypeId):TI:=match Baf Bc8 t with
 | some x=>x
 | none=>Ac Tryz.prog t
def Aip:Nat→List (Option TI)→Prop
 | _,[]=>True
 | i,none :: l=>Aip (i+1) l
 | i,some x :: l=>Ac Tryz.prog i=x∧Aip (i+1) l
theorem S2:∀ {l:List (Option TI)} {i t:Nat} {x:TI},Aip i l→Baf l t=some x→Ac Tryz.prog (i+t)=x
 | [],_,_,_,_,h=>by cases h
 | none :: l,i,0,_,_,h=>by cases h
 | some y :: l,i,0,x,hk,h=>by cases h; exact hk.1
 | none :: l,i,t+1,x,hk,h=>by have:=S2 (i:=i+1) (t:=t) hk h; rwa [show i+(t+1)=i+1+t by omega]
 | some y :: l,i,t+1,x,hk,h=>by have:=S2 (i:=i+1) (t:=t) hk.2 h; rwa [show i+(t+1)=i+1+t by omega]
theorem Bbi:Aip 0 Bc8:=⟨ty1,ty2,ty3,ty4,ty5,ty6,ty7,ty8,Bcj,Bes,Bc5,Bfe,Bf1,Bf2,Bd9,Bcw,Bfc,Bdk,Bdr,Bdu,Bcz,Bed,Ben,Bfs,Beb,Bgr,Bcr,Bds,Bex,Bdf,Bgj,Bfr,Bet,Bfm,Beo,Bd8,Bd1,Bfa,Bee,Bfh,Bgd,Bco,Be6,Bfu,Bct,Bgn,Bek,Bez,Bgq,Bdj,Bf8,Bel,Bge,Bc9,Bfg,Bc4,Bcy,Bew,Bgh,Bdy,Be7,Bdl,Bcm,Bei,Bff,Bea,Be5,Bdb,Bcx,Bdw,Bd5,Ber,Bfy,Bch,Bce,Bem,Bfl,Bdq,Bd2,Bd7,Bcf,Bfi,Bdz,Bdt,Bc6,Bc7,Avy,Avk,Ayd,Ay9,Ay7,Ayp,Azb,Aw1,Awh,Av1,Azg,Axp,Awr,Azc,Axd,Ayi,Axm,Axb,Azm,Aji,Awc,Ax3,Ayw,Ayy,Avn,Ay1,Ax8,Awv,Aye,Avp,Axw,Av5,Ayr,Awk,Avo,Av0,Axu,Ayq,Ayo,Ax5,Axl,Axy,Ax4,Ayv,Aw8,Axs,Awl,Ay2,Aya,Azd,Axz,Aw7,Ay6,Avq,Azi,Axg,Avl,Awg,Ay5,Ayf,Axk,Aw5,Azf,Axx,Axj,Awa,Ayc,Ax7,Ax9,Azj,Av7,Ay4,Axc,Aza,Awb,Axv,Avm,Ayg,Ays,Aw2,Axr,Awe,Avz,Avt,Ax1,Ax6,Axe,Avr,Ax2,Azl,Axf,Awp,Ay0,Ayz,Awu,Ayj,Awm,Axh,Aym,Av2,Avw,Avx,Ayh,Ayt,Awx,Avu,Axn,Awy,Aws,Aw0,Av3,Awj,Azk,Ay3,Av6,Aw9,Awf,Avs,trivial⟩
theorem Azy (t:TypeId):tyX t=Ac Tryz.prog t:=by
 unfold tyX
 split
 ·rename_i x h; have:=S2 Bbi h; rw [Nat.zero_add] at this; exact this.symm
 ·rfl
def knX (f:Nat) (xs:List AV):Option (Nat × List (List PV)):=match eqN f 131 with
 | true=>go 1 xs
 | false=>match eqN f 87 with
  | true=>go 5 xs
  | false=>none
 where go (k:Nat):List AV→Option (Nat × List (List PV))
 | [.p (.sl es)]=>match (es.all fun c=>eqN c.length k)&&((es.all fun e=>e.all PV.isVal)&&ltN es.length 1000000) with
  | true=>some (k,es)
  | false=>none
 | [.p (.val (.slice none 0 0))]=>some (k,[])
 | _=>none
theorem Bbk (f:Nat) (xs:List AV) (k:Nat) (es:List (List PV)) (h:knX f xs=some (k,es)):Ki Tryz.prog f xs k es:=by
 have key:∀ (k0:Nat),knX.go k0 xs=some (k,es)→k=k0∧((xs=[.p (.sl es)]∧(es.all fun c=>decide (c.length=k0))=true∧(es.all fun e=>e.all PV.isVal)=true∧es.length < 1000000)∨(xs=[Dk]∧es=[])):=by
  intro k0 h
  unfold knX.go at h
  split at h
  ·split at h
   ·rename_i hc
    cases h
    simp only [Bool.and_eq_true,Gz] at hc
    refine ⟨rfl,.inl ⟨rfl,?_,hc.2.1,hc.2.2⟩⟩
    rw [List.all_eq_true] at *
    exact fun c hm=>decide_eq_true (Bz.1 (hc.1 c hm))
   ·cases h
  ·cases h; exact ⟨rfl,.inr ⟨rfl,rfl⟩⟩
  ·cases h
 unfold knX at h
 split at h
 ·rename_i hf; rw [Bz] at hf; subst hf
  obtain ⟨rfl,⟨rfl,h1,h2,h3⟩ | ⟨rfl,rfl⟩⟩:=key 1 h
  ·exact Arg es h1 h2 h3
  ·exact Al8
 ·split at h
  ·rename_i hf; rw [Bz] at hf; subst hf
   obtain ⟨rfl,⟨rfl,h1,h2,h3⟩ | ⟨rfl,rfl⟩⟩:=key 5 h
   ·exact Adf es h1 h2 h3
   ·exact Alg
  ·cases h
def mzX:Value:=Arz
def mtX (t:Nat):Option (Nat × Value):=match eqN t 178 with
 | true=>some (14,mzX)
 | false=>none
def qeX (t n:Nat):Bool:=eqN t 120&&eqN n 8
theorem Bbt:Nr Tryz.prog 120 8:=Ta (by kernel_rfl)
def cfX (N id:Nat):Option (Option Nat × List Cf):=match eqN N 69&&eqN id 706 with
 | true=>some (none,[.sto [11] 8,.sto [67] 8])
 | false=>match eqN N 54&&eqN id 711 with
 | true=>some (some 9,[.app [4]])
 | false=>match eqN N 52&&eqN id 714 with
 | true=>some (none,[])
 | false=>match eqN N 54&&eqN id 208 with
 | true=>some (some 8,[])
 | false=>match eqN N 54&&eqN id 715 with
 | true=>some (some 9,[.app [6],.app [13,41]])
 | false=>none
def lvX (_ _:Nat):Option (List Nat):=none
noncomputable def rpX:RP:=⟨tyX,[60,61,66,68,71,76,81,84,85,88,98,101,105,107,110,112,116,123,125,127,128,133,135,136,138,139],[84],[130],knX,mtX,qeX,cfX,lvX⟩
theorem Sw:Qw Tryz.prog rpX where
 ty:=Azy
 mix:=rfl
 kn:=Bbk
 mt t n z h:=by
  have h:mtX t=some (n,z):=h
  unfold mtX at h
  split at h
  ·rename_i he; rw [Bz] at he; subst he; cases h
   exact ⟨194,196,by simp only [amT],Axt,rfl,Bbc⟩
  ·cases h
 qe t n h:=by
  have h:qeX t n=true:=h
  unfold qeX at h
  rw [Bool.and_eq_true,Bz,Bz] at h
  obtain ⟨rfl,rfl⟩:=h
  exact Bbt
end AM.Try
end
