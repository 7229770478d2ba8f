/- Lemmas for the proof: an abstract machine over the program's form in Lean, and the program's functions walked on it. -/
import Derived.Test.YtbgiddcgdgdmbaaGreatQ4
import Derived.Test.YtbgiddcgdgdmbaaGreatProg
import Derived.KernelRfl
/- What the program's tables say of its types, read off once. -/
section
namespace AM.Try
open Go AM Go.Proofs
theorem ty1:Aa Tryz.prog 1=⟨.other,1,8,[.nilFunc]⟩:=by kernel_rfl
theorem ty2:Aa Tryz.prog 2=⟨.int .i64,1,8,[.int .i64 0]⟩:=by kernel_rfl
theorem ty3:Aa Tryz.prog 3=⟨.int .i64,1,8,[.int .i64 0]⟩:=by kernel_rfl
theorem ty4:Aa Tryz.prog 4=⟨.bool,1,1,[.bool false]⟩:=by kernel_rfl
theorem ty5:Aa Tryz.prog 5=⟨.int .u8,1,1,[.int .u8 0]⟩:=by kernel_rfl
theorem ty6:Aa Tryz.prog 6=⟨.int .u8,1,1,[.int .u8 0]⟩:=by kernel_rfl
theorem ty7:Aa Tryz.prog 7=⟨.struct [(0,2),(1,3),(2,4),(3,6)],4,24,[.int .i64 0,.int .i64 0,.bool false,.int .u8 0]⟩:=by kernel_rfl
theorem ty8:Aa Tryz.prog 8=⟨.struct [(0,2),(1,3),(2,4),(3,6)],4,24,[.int .i64 0,.int .i64 0,.bool false,.int .u8 0]⟩:=by kernel_rfl
theorem Azj:Aa Tryz.prog 12=⟨.int .u64,1,8,[.int .u64 0]⟩:=by kernel_rfl
theorem Bak:Aa Tryz.prog 15=⟨.other,1,8,[.pointer none]⟩:=by kernel_rfl
theorem Bbb:Aa Tryz.prog 16=⟨.other,1,8,[.pointer none]⟩:=by kernel_rfl
theorem Bcn:Aa Tryz.prog 17=⟨.other,1,8,[.pointer none]⟩:=by kernel_rfl
theorem Bb8:Aa Tryz.prog 18=⟨.struct [(0,17)],1,8,[.pointer none]⟩:=by kernel_rfl
theorem Bdl:Aa Tryz.prog 19=⟨.struct [(0,17)],1,8,[.pointer none]⟩:=by kernel_rfl
theorem Bck:Aa Tryz.prog 20=⟨.other,1,16,[.nilIface]⟩:=by kernel_rfl
theorem Bb4:Aa Tryz.prog 21=⟨.int .i32,1,4,[.int .i32 0]⟩:=by kernel_rfl
theorem Bda:Aa Tryz.prog 22=⟨.sl 92,1,24,[.slice none 0 0]⟩:=by kernel_rfl
theorem Az9:Aa Tryz.prog 23=⟨.sl 94,1,24,[.slice none 0 0]⟩:=by kernel_rfl
theorem Baq:Aa Tryz.prog 24=⟨.struct [(0,22),(1,23)],2,48,[.slice none 0 0,.slice none 0 0]⟩:=by kernel_rfl
theorem Az3:Aa Tryz.prog 25=⟨.struct [(0,22),(1,23)],2,48,[.slice none 0 0,.slice none 0 0]⟩:=by kernel_rfl
theorem Azg:Aa Tryz.prog 26=⟨.sl 3,1,24,[.slice none 0 0]⟩:=by kernel_rfl
theorem Azu:Aa Tryz.prog 27=⟨.struct [(0,26),(1,26),(2,26)],3,72,[.slice none 0 0,.slice none 0 0,.slice none 0 0]⟩:=by kernel_rfl
theorem Ba3:Aa Tryz.prog 28=⟨.struct [(0,26),(1,26),(2,26)],3,72,[.slice none 0 0,.slice none 0 0,.slice none 0 0]⟩:=by kernel_rfl
theorem Bbm:Aa Tryz.prog 29=⟨.other,1,8,[.nilFunc]⟩:=by kernel_rfl
theorem Bb2:Aa Tryz.prog 30=⟨.other,1,8,[.nilFunc]⟩:=by kernel_rfl
theorem Bbr:Aa Tryz.prog 31=⟨.sl 90,1,24,[.slice none 0 0]⟩:=by kernel_rfl
theorem Bcv:Aa Tryz.prog 32=⟨.int .i64,1,8,[.int .i64 0]⟩:=by kernel_rfl
theorem Bcl:Aa Tryz.prog 34=⟨.other,1,8,[.nilFunc]⟩:=by kernel_rfl
theorem Azq:Aa Tryz.prog 35=⟨.sl 128,1,24,[.slice none 0 0]⟩:=by kernel_rfl
theorem Ba0:Aa Tryz.prog 36=⟨.sl 135,1,24,[.slice none 0 0]⟩:=by kernel_rfl
theorem Bb6:Aa Tryz.prog 37=⟨.struct [(0,35),(1,36)],2,48,[.slice none 0 0,.slice none 0 0]⟩:=by kernel_rfl
theorem Bdm:Aa Tryz.prog 38=⟨.struct [(0,35),(1,36)],2,48,[.slice none 0 0,.slice none 0 0]⟩:=by kernel_rfl
theorem Bb7:Aa Tryz.prog 39=⟨.other,1,8,[.nilFunc]⟩:=by kernel_rfl
theorem Ba6:Aa Tryz.prog 40=⟨.struct [(0,26),(1,26),(2,26)],3,72,[.slice none 0 0,.slice none 0 0,.slice none 0 0]⟩:=by kernel_rfl
theorem Bae:Aa Tryz.prog 41=⟨.other,1,8,[.nilFunc]⟩:=by kernel_rfl
theorem Bbk:Aa Tryz.prog 42=⟨.other,1,8,[.nilFunc]⟩:=by kernel_rfl
theorem Bca:Aa Tryz.prog 43=⟨.other,1,8,[.nilFunc]⟩:=by kernel_rfl
theorem Bcz:Aa Tryz.prog 44=⟨.sl 137,1,24,[.slice none 0 0]⟩:=by kernel_rfl
theorem Azs:Aa Tryz.prog 46=⟨.other,1,8,[.nilFunc]⟩:=by kernel_rfl
theorem Ba2:Aa Tryz.prog 47=⟨.other,1,8,[.nilFunc]⟩:=by kernel_rfl
theorem Azf:Aa Tryz.prog 48=⟨.other,1,8,[.nilFunc]⟩:=by kernel_rfl
theorem Bai:Aa Tryz.prog 49=⟨.sl 60,1,24,[.slice none 0 0]⟩:=by kernel_rfl
theorem Bcy:Aa Tryz.prog 51=⟨.other,1,8,[.nilFunc]⟩:=by kernel_rfl
theorem Bdc:Aa Tryz.prog 52=⟨.sl 44,1,24,[.slice none 0 0]⟩:=by kernel_rfl
theorem Bb9:Aa Tryz.prog 53=⟨.other,1,8,[.nilFunc]⟩:=by kernel_rfl
theorem Bb1:Aa Tryz.prog 54=⟨.struct [(0,3),(1,3)],2,16,[.int .i64 0,.int .i64 0]⟩:=by kernel_rfl
theorem Az4:Aa Tryz.prog 55=⟨.struct [(0,3),(1,3)],2,16,[.int .i64 0,.int .i64 0]⟩:=by kernel_rfl
theorem Bcx:Aa Tryz.prog 57=⟨.other,1,8,[.nilFunc]⟩:=by kernel_rfl
theorem Az6:Aa Tryz.prog 58=⟨.struct [(0,3),(1,3)],2,16,[.int .i64 0,.int .i64 0]⟩:=by kernel_rfl
theorem Bas:Aa Tryz.prog 59=⟨.struct [(0,58),(2,58),(4,58)],6,48,[.int .i64 0,.int .i64 0,.int .i64 0,.int .i64 0,.int .i64 0,.int .i64 0]⟩:=by kernel_rfl
theorem Azk:Aa Tryz.prog 60=⟨.struct [(0,58),(2,58),(4,58)],6,48,[.int .i64 0,.int .i64 0,.int .i64 0,.int .i64 0,.int .i64 0,.int .i64 0]⟩:=by kernel_rfl
theorem Azt:Aa Tryz.prog 61=⟨.other,1,8,[.nilFunc]⟩:=by kernel_rfl
theorem Bbt:Aa Tryz.prog 62=⟨.other,1,8,[.nilFunc]⟩:=by kernel_rfl
theorem Bcw:Aa Tryz.prog 63=⟨.sl 70,1,24,[.slice none 0 0]⟩:=by kernel_rfl
theorem Baa:Aa Tryz.prog 65=⟨.other,1,8,[.nilFunc]⟩:=by kernel_rfl
theorem Bdn:Aa Tryz.prog 66=⟨.sl 103,1,24,[.slice none 0 0]⟩:=by kernel_rfl
theorem Bc6:Aa Tryz.prog 67=⟨.other,1,8,[.nilFunc]⟩:=by kernel_rfl
theorem Bb5:Aa Tryz.prog 68=⟨.other,1,8,[.nilFunc]⟩:=by kernel_rfl
theorem Bdk:Aa Tryz.prog 69=⟨.struct [(0,3),(1,55),(3,55)],5,40,[.int .i64 0,.int .i64 0,.int .i64 0,.int .i64 0,.int .i64 0]⟩:=by kernel_rfl
theorem Bch:Aa Tryz.prog 70=⟨.struct [(0,3),(1,55),(3,55)],5,40,[.int .i64 0,.int .i64 0,.int .i64 0,.int .i64 0,.int .i64 0]⟩:=by kernel_rfl
theorem Bad:Aa Tryz.prog 71=⟨.other,1,8,[.nilFunc]⟩:=by kernel_rfl
theorem Bc2:Aa Tryz.prog 72=⟨.other,1,8,[.nilFunc]⟩:=by kernel_rfl
theorem Bba:Aa Tryz.prog 73=⟨.other,1,8,[.nilFunc]⟩:=by kernel_rfl
theorem Azl:Aa Tryz.prog 75=⟨.other,1,8,[.nilFunc]⟩:=by kernel_rfl
theorem Bbs:Aa Tryz.prog 76=⟨.other,1,8,[.nilFunc]⟩:=by kernel_rfl
theorem Bab:Aa Tryz.prog 77=⟨.other,1,8,[.nilFunc]⟩:=by kernel_rfl
theorem Bao:Aa Tryz.prog 78=⟨.other,1,8,[.nilFunc]⟩:=by kernel_rfl
theorem Az2:Aa Tryz.prog 79=⟨.other,1,8,[.nilFunc]⟩:=by kernel_rfl
theorem Bdj:Aa Tryz.prog 80=⟨.other,1,8,[.nilFunc]⟩:=by kernel_rfl
theorem Bap:Aa Tryz.prog 81=⟨.other,1,8,[.nilFunc]⟩:=by kernel_rfl
theorem Baz:Aa Tryz.prog 82=⟨.other,1,8,[.nilFunc]⟩:=by kernel_rfl
theorem Bcs:Aa Tryz.prog 83=⟨.int .u16,1,2,[.int .u16 0]⟩:=by kernel_rfl
theorem Bc0:Aa Tryz.prog 85=⟨.other,1,8,[.nilFunc]⟩:=by kernel_rfl
theorem Azo:Aa Tryz.prog 86=⟨.other,1,8,[.nilFunc]⟩:=by kernel_rfl
theorem Bbv:Aa Tryz.prog 87=⟨.other,1,8,[.nilFunc]⟩:=by kernel_rfl
theorem Azn:Aa Tryz.prog 88=⟨.other,1,8,[.nilFunc]⟩:=by kernel_rfl
theorem Bah:Aa Tryz.prog 89=⟨.struct [(0,3),(1,3),(2,3)],3,24,[.int .i64 0,.int .i64 0,.int .i64 0]⟩:=by kernel_rfl
theorem Bct:Aa Tryz.prog 90=⟨.struct [(0,3),(1,3),(2,3)],3,24,[.int .i64 0,.int .i64 0,.int .i64 0]⟩:=by kernel_rfl
theorem Bbn:Aa Tryz.prog 91=⟨.struct [(0,55),(2,55),(4,3)],5,40,[.int .i64 0,.int .i64 0,.int .i64 0,.int .i64 0,.int .i64 0]⟩:=by kernel_rfl
theorem Bbc:Aa Tryz.prog 92=⟨.struct [(0,55),(2,55),(4,3)],5,40,[.int .i64 0,.int .i64 0,.int .i64 0,.int .i64 0,.int .i64 0]⟩:=by kernel_rfl
theorem Bcj:Aa Tryz.prog 93=⟨.struct [(0,3),(1,3),(2,3),(3,55)],5,40,[.int .i64 0,.int .i64 0,.int .i64 0,.int .i64 0,.int .i64 0]⟩:=by kernel_rfl
theorem Azi:Aa Tryz.prog 94=⟨.struct [(0,3),(1,3),(2,3),(3,55)],5,40,[.int .i64 0,.int .i64 0,.int .i64 0,.int .i64 0,.int .i64 0]⟩:=by kernel_rfl
theorem Bax:Aa Tryz.prog 95=⟨.other,1,8,[.nilFunc]⟩:=by kernel_rfl
theorem Bcc:Aa Tryz.prog 96=⟨.arr 6 4,6,6,[.bool false,.bool false,.bool false,.bool false,.bool false,.bool false]⟩:=by kernel_rfl
theorem Ba1:Aa Tryz.prog 97=⟨.other,1,8,[.nilFunc]⟩:=by kernel_rfl
theorem Az1:Aa Tryz.prog 99=⟨.other,1,8,[.nilFunc]⟩:=by kernel_rfl
theorem As9:Aa Tryz.prog 100=⟨.int .u64,1,8,[.int .u64 0]⟩:=by kernel_rfl
theorem Ats:Aa Tryz.prog 101=⟨.other,1,8,[.nilFunc]⟩:=by kernel_rfl
theorem Atc:Aa Tryz.prog 102=⟨.struct [(0,3),(1,58),(3,58)],5,40,[.int .i64 0,.int .i64 0,.int .i64 0,.int .i64 0,.int .i64 0]⟩:=by kernel_rfl
theorem Asu:Aa Tryz.prog 103=⟨.struct [(0,3),(1,58),(3,58)],5,40,[.int .i64 0,.int .i64 0,.int .i64 0,.int .i64 0,.int .i64 0]⟩:=by kernel_rfl
theorem Aux:Aa Tryz.prog 104=⟨.other,1,8,[.nilFunc]⟩:=by kernel_rfl
theorem Av6:Aa Tryz.prog 105=⟨.other,1,8,[.nilFunc]⟩:=by kernel_rfl
theorem Auw:Aa Tryz.prog 106=⟨.other,1,8,[.nilFunc]⟩:=by kernel_rfl
theorem Aua:Aa Tryz.prog 107=⟨.other,1,8,[.nilFunc]⟩:=by kernel_rfl
theorem Awl:Aa Tryz.prog 108=⟨.other,1,8,[.nilFunc]⟩:=by kernel_rfl
theorem Aur:Aa Tryz.prog 109=⟨.other,1,8,[.nilFunc]⟩:=by kernel_rfl
theorem Aup:Aa Tryz.prog 111=⟨.other,1,8,[.nilFunc]⟩:=by kernel_rfl
theorem Asz:Aa Tryz.prog 112=⟨.other,1,8,[.nilFunc]⟩:=by kernel_rfl
theorem Aui:Aa Tryz.prog 113=⟨.sl 58,1,24,[.slice none 0 0]⟩:=by kernel_rfl
theorem Aws:Aa Tryz.prog 114=⟨.other,1,8,[.nilFunc]⟩:=by kernel_rfl
theorem Atr:Aa Tryz.prog 115=⟨.other,1,8,[.nilFunc]⟩:=by kernel_rfl
theorem Atp:Aa Tryz.prog 116=⟨.other,1,8,[.nilFunc]⟩:=by kernel_rfl
theorem Av1:Aa Tryz.prog 117=⟨.struct [(0,3),(1,3)],2,16,[.int .i64 0,.int .i64 0]⟩:=by kernel_rfl
theorem Awf:Aa Tryz.prog 118=⟨.struct [(0,3),(1,3)],2,16,[.int .i64 0,.int .i64 0]⟩:=by kernel_rfl
theorem Au1:Aa Tryz.prog 119=⟨.arr 4 118,8,64,[.int .i64 0,.int .i64 0,.int .i64 0,.int .i64 0,.int .i64 0,.int .i64 0,.int .i64 0,.int .i64 0]⟩:=by kernel_rfl
theorem Ahv:Aa Tryz.prog 120=⟨.arr 4 118,8,64,[.int .i64 0,.int .i64 0,.int .i64 0,.int .i64 0,.int .i64 0,.int .i64 0,.int .i64 0,.int .i64 0]⟩:=by kernel_rfl
theorem Avv:Aa Tryz.prog 122=⟨.other,1,8,[.pointer none]⟩:=by kernel_rfl
theorem Avw:Aa Tryz.prog 123=⟨.other,1,8,[.nilFunc]⟩:=by kernel_rfl
theorem Aty:Aa Tryz.prog 124=⟨.other,1,8,[.nilFunc]⟩:=by kernel_rfl
theorem Au8:Aa Tryz.prog 125=⟨.sl 118,1,24,[.slice none 0 0]⟩:=by kernel_rfl
theorem Av9:Aa Tryz.prog 126=⟨.other,1,8,[.nilFunc]⟩:=by kernel_rfl
theorem Avl:Aa Tryz.prog 127=⟨.struct [(0,58),(2,58),(4,3)],5,40,[.int .i64 0,.int .i64 0,.int .i64 0,.int .i64 0,.int .i64 0]⟩:=by kernel_rfl
theorem Ava:Aa Tryz.prog 128=⟨.struct [(0,58),(2,58),(4,3)],5,40,[.int .i64 0,.int .i64 0,.int .i64 0,.int .i64 0,.int .i64 0]⟩:=by kernel_rfl
theorem Atb:Aa Tryz.prog 129=⟨.other,1,8,[.nilFunc]⟩:=by kernel_rfl
theorem Av8:Aa Tryz.prog 130=⟨.other,1,8,[.nilFunc]⟩:=by kernel_rfl
theorem As2:Aa Tryz.prog 131=⟨.other,1,8,[.nilFunc]⟩:=by kernel_rfl
theorem At2:Aa Tryz.prog 132=⟨.other,1,8,[.nilFunc]⟩:=by kernel_rfl
theorem Awe:Aa Tryz.prog 133=⟨.other,1,8,[.nilFunc]⟩:=by kernel_rfl
theorem Aum:Aa Tryz.prog 134=⟨.struct [(0,3),(1,3),(2,3),(3,58)],5,40,[.int .i64 0,.int .i64 0,.int .i64 0,.int .i64 0,.int .i64 0]⟩:=by kernel_rfl
theorem At3:Aa Tryz.prog 135=⟨.struct [(0,3),(1,3),(2,3),(3,58)],5,40,[.int .i64 0,.int .i64 0,.int .i64 0,.int .i64 0,.int .i64 0]⟩:=by kernel_rfl
theorem Aud:Aa Tryz.prog 136=⟨.other,1,8,[.nilFunc]⟩:=by kernel_rfl
theorem Atj:Aa Tryz.prog 137=⟨.struct [(0,3),(1,3),(2,3)],3,24,[.int .i64 0,.int .i64 0,.int .i64 0]⟩:=by kernel_rfl
theorem Avf:Aa Tryz.prog 138=⟨.other,1,8,[.nilFunc]⟩:=by kernel_rfl
theorem Atl:Aa Tryz.prog 139=⟨.other,1,8,[.nilFunc]⟩:=by kernel_rfl
theorem Auq:Aa Tryz.prog 140=⟨.other,1,8,[.nilFunc]⟩:=by kernel_rfl
theorem Av5:Aa Tryz.prog 141=⟨.other,1,8,[.pointer none]⟩:=by kernel_rfl
theorem Awc:Aa Tryz.prog 142=⟨.other,1,8,[.nilFunc]⟩:=by kernel_rfl
theorem Awd:Aa Tryz.prog 143=⟨.other,1,8,[.nilFunc]⟩:=by kernel_rfl
theorem Avh:Aa Tryz.prog 144=⟨.other,1,8,[.nilFunc]⟩:=by kernel_rfl
theorem Awp:Aa Tryz.prog 145=⟨.other,1,8,[.nilFunc]⟩:=by kernel_rfl
theorem Aub:Aa Tryz.prog 146=⟨.other,1,8,[.nilFunc]⟩:=by kernel_rfl
theorem As7:Aa Tryz.prog 147=⟨.other,1,8,[.nilFunc]⟩:=by kernel_rfl
theorem Av3:Aa Tryz.prog 149=⟨.other,1,8,[.nilFunc]⟩:=by kernel_rfl
theorem Atg:Aa Tryz.prog 150=⟨.other,1,8,[.nilFunc]⟩:=by kernel_rfl
theorem Auz:Aa Tryz.prog 151=⟨.other,1,8,[.nilFunc]⟩:=by kernel_rfl
theorem Av0:Aa Tryz.prog 152=⟨.other,1,8,[.nilFunc]⟩:=by kernel_rfl
theorem Awq:Aa Tryz.prog 153=⟨.other,1,8,[.nilFunc]⟩:=by kernel_rfl
theorem Avq:Aa Tryz.prog 154=⟨.other,1,8,[.nilFunc]⟩:=by kernel_rfl
theorem Atv:Aa Tryz.prog 155=⟨.other,1,8,[.nilFunc]⟩:=by kernel_rfl
theorem Avs:Aa Tryz.prog 156=⟨.struct [(0,155)],1,8,[.nilFunc]⟩:=by kernel_rfl
theorem At7:Aa Tryz.prog 157=⟨.struct [(0,155)],1,8,[.nilFunc]⟩:=by kernel_rfl
theorem Ata:Aa Tryz.prog 158=⟨.arr 3 157,3,24,[.nilFunc,.nilFunc,.nilFunc]⟩:=by kernel_rfl
theorem Av7:Aa Tryz.prog 159=⟨.other,1,8,[.nilFunc]⟩:=by kernel_rfl
theorem Avj:Aa Tryz.prog 160=⟨.other,1,8,[.pointer none]⟩:=by kernel_rfl
theorem Atw:Aa Tryz.prog 162=⟨.other,1,8,[.nilFunc]⟩:=by kernel_rfl
theorem Asv:Aa Tryz.prog 163=⟨.other,1,8,[.nilFunc]⟩:=by kernel_rfl
theorem Atf:Aa Tryz.prog 164=⟨.other,1,8,[.nilFunc]⟩:=by kernel_rfl
theorem Au9:Aa Tryz.prog 165=⟨.other,1,8,[.nilFunc]⟩:=by kernel_rfl
theorem Ati:Aa Tryz.prog 166=⟨.other,1,8,[.nilFunc]⟩:=by kernel_rfl
theorem Ave:Aa Tryz.prog 167=⟨.other,1,8,[.pointer none]⟩:=by kernel_rfl
theorem Atn:Aa Tryz.prog 168=⟨.other,1,8,[.nilFunc]⟩:=by kernel_rfl
theorem Au7:Aa Tryz.prog 169=⟨.other,1,8,[.nilFunc]⟩:=by kernel_rfl
theorem Awm:Aa Tryz.prog 170=⟨.other,1,8,[.nilFunc]⟩:=by kernel_rfl
theorem Avd:Aa Tryz.prog 171=⟨.other,1,8,[.nilFunc]⟩:=by kernel_rfl
theorem Avk:Aa Tryz.prog 172=⟨.other,1,8,[.nilFunc]⟩:=by kernel_rfl
theorem Atq:Aa Tryz.prog 173=⟨.other,1,8,[.nilFunc]⟩:=by kernel_rfl
theorem Au4:Aa Tryz.prog 174=⟨.other,1,8,[.nilFunc]⟩:=by kernel_rfl
theorem As1:Aa Tryz.prog 175=⟨.mp 3 4,1,8,[.map none]⟩:=by kernel_rfl
theorem At9:Aa Tryz.prog 176=⟨.sl 26,1,24,[.slice none 0 0]⟩:=by kernel_rfl
theorem Awh:Aa Tryz.prog 177=⟨.other,1,8,[.nilFunc]⟩:=by kernel_rfl
theorem Awk:Aa Tryz.prog 178=⟨.mp 194 196,1,8,[.map none]⟩:=by kernel_rfl
theorem Att:Aa Tryz.prog 179=⟨.struct [(0,38),(2,178)],3,56,[.slice none 0 0,.slice none 0 0,.map none]⟩:=by kernel_rfl
theorem Auc:Aa Tryz.prog 180=⟨.struct [(0,38),(2,178)],3,56,[.slice none 0 0,.slice none 0 0,.map none]⟩:=by kernel_rfl
theorem Avm:Aa Tryz.prog 181=⟨.other,1,8,[.nilFunc]⟩:=by kernel_rfl
theorem Au0:Aa Tryz.prog 182=⟨.other,1,8,[.nilFunc]⟩:=by kernel_rfl
theorem Awv:Aa Tryz.prog 183=⟨.other,1,8,[.nilFunc]⟩:=by kernel_rfl
theorem Auj:Aa Tryz.prog 184=⟨.other,1,8,[.nilFunc]⟩:=by kernel_rfl
theorem Atd:Aa Tryz.prog 185=⟨.other,1,8,[.nilFunc]⟩:=by kernel_rfl
theorem Awa:Aa Tryz.prog 186=⟨.other,1,8,[.nilFunc]⟩:=by kernel_rfl
theorem Atx:Aa Tryz.prog 187=⟨.other,1,8,[.nilFunc]⟩:=by kernel_rfl
theorem Aue:Aa Tryz.prog 188=⟨.other,1,8,[.nilFunc]⟩:=by kernel_rfl
theorem Avy:Aa Tryz.prog 189=⟨.other,1,8,[.nilFunc]⟩:=by kernel_rfl
theorem At5:Aa Tryz.prog 190=⟨.other,1,8,[.nilFunc]⟩:=by kernel_rfl
theorem Atz:Aa Tryz.prog 191=⟨.other,1,8,[.nilFunc]⟩:=by kernel_rfl
theorem Avb:Aa Tryz.prog 192=⟨.other,1,8,[.nilFunc]⟩:=by kernel_rfl
theorem Aus:Aa Tryz.prog 193=⟨.struct [(0,135),(5,3),(6,120)],14,112,[.int .i64 0,.int .i64 0,.int .i64 0,.int .i64 0,.int .i64 0,.int .i64 0,.int .i64 0,.int .i64 0,.int .i64 0,.int .i64 0,.int .i64 0,.int .i64 0,.int .i64 0,.int .i64 0]⟩:=by kernel_rfl
theorem As3:Aa Tryz.prog 194=⟨.struct [(0,135),(5,3),(6,120)],14,112,[.int .i64 0,.int .i64 0,.int .i64 0,.int .i64 0,.int .i64 0,.int .i64 0,.int .i64 0,.int .i64 0,.int .i64 0,.int .i64 0,.int .i64 0,.int .i64 0,.int .i64 0,.int .i64 0]⟩:=by kernel_rfl
theorem Avr:Aa Tryz.prog 195=⟨.struct [(0,120),(8,4)],9,72,[.int .i64 0,.int .i64 0,.int .i64 0,.int .i64 0,.int .i64 0,.int .i64 0,.int .i64 0,.int .i64 0,.bool false]⟩:=by kernel_rfl
theorem Auf:Aa Tryz.prog 196=⟨.struct [(0,120),(8,4)],9,72,[.int .i64 0,.int .i64 0,.int .i64 0,.int .i64 0,.int .i64 0,.int .i64 0,.int .i64 0,.int .i64 0,.bool false]⟩:=by kernel_rfl
theorem Ath:Aa Tryz.prog 198=⟨.other,1,8,[.nilFunc]⟩:=by kernel_rfl
theorem Au5:Aa Tryz.prog 199=⟨.other,1,8,[.nilFunc]⟩:=by kernel_rfl
theorem Atu:Aa Tryz.prog 200=⟨.other,1,8,[.nilFunc]⟩:=by kernel_rfl
theorem Atk:Aa Tryz.prog 201=⟨.other,1,8,[.nilFunc]⟩:=by kernel_rfl
theorem As6:Aa Tryz.prog 202=⟨.other,1,8,[.nilFunc]⟩:=by kernel_rfl
theorem Awo:Aa Tryz.prog 203=⟨.other,1,8,[.nilFunc]⟩:=by kernel_rfl
theorem As0:Aa Tryz.prog 204=⟨.other,1,8,[.nilFunc]⟩:=by kernel_rfl
theorem Au3:Aa Tryz.prog 205=⟨.other,1,8,[.nilFunc]⟩:=by kernel_rfl
theorem Avg:Aa Tryz.prog 206=⟨.other,1,8,[.pointer none]⟩:=by kernel_rfl
theorem Aww:Aa Tryz.prog 207=⟨.other,1,8,[.nilFunc]⟩:=by kernel_rfl
theorem At6:Aa Tryz.prog 208=⟨.other,1,8,[.nilFunc]⟩:=by kernel_rfl
theorem Avz:Aa Tryz.prog 209=⟨.other,1,8,[.nilFunc]⟩:=by kernel_rfl
theorem At8:Aa Tryz.prog 212=⟨.arr 0 16,0,0,[]⟩:=by kernel_rfl
theorem Awt:Aa Tryz.prog 213=⟨.struct [(0,212)],0,0,[]⟩:=by kernel_rfl
theorem Auh:Aa Tryz.prog 214=⟨.struct [(0,212)],0,0,[]⟩:=by kernel_rfl
theorem As5:Aa Tryz.prog 215=⟨.int .u32,1,4,[.int .u32 0]⟩:=by kernel_rfl
theorem Awj:Aa Tryz.prog 216=⟨.int .u8,1,1,[.int .u8 0]⟩:=by kernel_rfl
theorem Av2:Aa Tryz.prog 217=⟨.int .u8,1,1,[.int .u8 0]⟩:=by kernel_rfl
theorem Av4:Aa Tryz.prog 218=⟨.other,1,8,[.nilFunc]⟩:=by kernel_rfl
theorem Auu:Aa Tryz.prog 219=⟨.other,1,8,[.pointer none]⟩:=by kernel_rfl
theorem Asw:Aa Tryz.prog 220=⟨.int .i32,1,4,[.int .i32 0]⟩:=by kernel_rfl
theorem Auy:Aa Tryz.prog 221=⟨.int .i32,1,4,[.int .i32 0]⟩:=by kernel_rfl
theorem Auo:Aa Tryz.prog 222=⟨.struct [(0,12),(1,12),(2,215),(3,216),(4,5),(5,5),(6,217),(7,218),(8,219),(9,220),(10,221)],11,48,[.int .u64 0,.int .u64 0,.int .u32 0,.int .u8 0,.int .u8 0,.int .u8 0,.int .u8 0,.nilFunc,.pointer none,.int .i32 0,.int .i32 0]⟩:=by kernel_rfl
theorem Ate:Aa Tryz.prog 223=⟨.struct [(0,12),(1,12),(2,215),(3,216),(4,5),(5,5),(6,217),(7,218),(8,219),(9,220),(10,221)],11,48,[.int .u64 0,.int .u64 0,.int .u32 0,.int .u8 0,.int .u8 0,.int .u8 0,.int .u8 0,.nilFunc,.pointer none,.int .i32 0,.int .i32 0]⟩:=by kernel_rfl
theorem Avu:Aa Tryz.prog 224=⟨.other,1,8,[.pointer none]⟩:=by kernel_rfl
def Bbf:=PLift.up (And.intro @ty1 (And.intro @ty2 (And.intro @ty3 (And.intro @ty4 (And.intro @ty5 (And.intro @ty6 (And.intro @ty7 (And.intro @ty8 (And.intro @Azj (And.intro @Bak (And.intro @Bbb (And.intro @Bcn (And.intro @Bb8 (And.intro @Bdl (And.intro @Bck (And.intro @Bb4 (And.intro @Bda (And.intro @Az9 (And.intro @Baq (And.intro @Az3 (And.intro @Azg (And.intro @Azu (And.intro @Ba3 (@Bbm))))))))))))))))))))))))
def Bb3:=PLift.up (And.intro @Bb2 (And.intro @Bbr (And.intro @Bcv (And.intro @Bcl (And.intro @Azq (And.intro @Ba0 (And.intro @Bb6 (And.intro @Bdm (And.intro @Bb7 (And.intro @Ba6 (And.intro @Bae (And.intro @Bbk (And.intro @Bca (And.intro @Bcz (And.intro @Azs (And.intro @Ba2 (And.intro @Azf (And.intro @Bai (And.intro @Bcy (And.intro @Bdc (And.intro @Bb9 (And.intro @Bb1 (And.intro @Az4 (@Bcx))))))))))))))))))))))))
def Bbl:=PLift.up (And.intro @Az6 (And.intro @Bas (And.intro @Azk (And.intro @Azt (And.intro @Bbt (And.intro @Bcw (And.intro @Baa (And.intro @Bdn (And.intro @Bc6 (And.intro @Bb5 (And.intro @Bdk (And.intro @Bch (And.intro @Bad (And.intro @Bc2 (And.intro @Bba (And.intro @Azl (And.intro @Bbs (And.intro @Bab (And.intro @Bao (And.intro @Az2 (And.intro @Bdj (And.intro @Bap (And.intro @Baz (@Bcs))))))))))))))))))))))))
def Bdg:=PLift.up (And.intro @Bc0 (And.intro @Azo (And.intro @Bbv (And.intro @Azn (And.intro @Bah (And.intro @Bct (And.intro @Bbn (And.intro @Bbc (And.intro @Bcj (And.intro @Azi (And.intro @Bax (And.intro @Bcc (And.intro @Ba1 (And.intro @Az1 (And.intro @As9 (And.intro @Ats (And.intro @Atc (And.intro @Asu (And.intro @Aux (And.intro @Av6 (And.intro @Auw (And.intro @Aua (And.intro @Awl (@Aur))))))))))))))))))))))))
def Bcg:=PLift.up (And.intro @Aup (And.intro @Asz (And.intro @Aui (And.intro @Aws (And.intro @Atr (And.intro @Atp (And.intro @Av1 (And.intro @Awf (And.intro @Au1 (And.intro @Ahv (And.intro @Avv (And.intro @Avw (And.intro @Aty (And.intro @Au8 (And.intro @Av9 (And.intro @Avl (And.intro @Ava (And.intro @Atb (And.intro @Av8 (And.intro @As2 (And.intro @At2 (And.intro @Awe (And.intro @Aum (@At3))))))))))))))))))))))))
def Bcu:=PLift.up (And.intro @Aud (And.intro @Atj (And.intro @Avf (And.intro @Atl (And.intro @Auq (And.intro @Av5 (And.intro @Awc (And.intro @Awd (And.intro @Avh (And.intro @Awp (And.intro @Aub (And.intro @As7 (And.intro @Av3 (And.intro @Atg (And.intro @Auz (And.intro @Av0 (And.intro @Awq (And.intro @Avq (And.intro @Atv (And.intro @Avs (And.intro @At7 (And.intro @Ata (And.intro @Av7 (@Avj))))))))))))))))))))))))
def Bbj:=PLift.up (And.intro @Atw (And.intro @Asv (And.intro @Atf (And.intro @Au9 (And.intro @Ati (And.intro @Ave (And.intro @Atn (And.intro @Au7 (And.intro @Awm (And.intro @Avd (And.intro @Avk (And.intro @Atq (And.intro @Au4 (And.intro @As1 (And.intro @At9 (And.intro @Awh (And.intro @Awk (And.intro @Att (And.intro @Auc (And.intro @Avm (And.intro @Au0 (And.intro @Awv (And.intro @Auj (@Atd))))))))))))))))))))))))
def Azx:=PLift.up (And.intro @Awa (And.intro @Atx (And.intro @Aue (And.intro @Avy (And.intro @At5 (And.intro @Atz (And.intro @Avb (And.intro @Aus (And.intro @As3 (And.intro @Avr (And.intro @Auf (And.intro @Ath (And.intro @Au5 (And.intro @Atu (And.intro @Atk (And.intro @As6 (And.intro @Awo (And.intro @As0 (And.intro @Au3 (And.intro @Avg (And.intro @Aww (And.intro @At6 (And.intro @Avz (@At8))))))))))))))))))))))))
def Bcq:=PLift.up (And.intro @Awt (And.intro @Auh (And.intro @As5 (And.intro @Awj (And.intro @Av2 (And.intro @Av4 (And.intro @Auu (And.intro @Asw (And.intro @Auy (And.intro @Auo (And.intro @Ate (@Avu))))))))))))
def Baw:=PLift.up (And.intro Bbf.down (And.intro Bb3.down (And.intro Bbl.down (And.intro Bdg.down (And.intro Bcg.down (And.intro Bcu.down (And.intro Bbj.down (And.intro Azx.down (Bcq.down)))))))))
theorem amT:type_of% Baw.down:=Baw.down
end AM.Try
end
/- The program's small functions: ranges, vessels, steps. -/
section
namespace AM.Try
open Go AM AM.Wort Go.Proofs
open Nat renaming reduceLT→sA,reduceAdd→sB,reduceMul→sC,reduceSub→sD,reduceLeDiff→sE,reduceEqDiff→sF,reduceBEq→sG
open Int renaming reduceAdd→sH,reduceSub→sI,reduceMul→sJ,reduceLT→sK,reduceLE→sL,reduceNeg→sM,reduceToNat→sN,reduceEq→sO
set_option maxRecDepth 100000
set_option maxHeartbeats 8000000
theorem Lb (n lo hi:Int):Bu Tryz.prog 75 [i64 n,i64 lo,i64 hi] (bl (inB n lo hi)):=by
  refine Bo (v:=[]) (q:=[]) (N:=15) (rs:=[.tmp 6]) Tryz.func75 rfl rfl rfl rfl rfl ?_
  refine Ad fun K1 hK1=>?_
  simp (disch:=omega) only [amL,sA,sB]
  refine hK1 _ ?_
  refine Ad fun K2 hK2=>?_
  simp (disch:=omega) only [amL,amT,sA,sF,↓reduceIte,reduceCtorEq]
  repeat' first | (refine E3 (fun h=>?_) (fun h=>?_) <;> simp (disch:=omega) only [h,amL,amT,sA,sF,↓reduceIte,reduceCtorEq]) | (refine Cz (fun h=>?_) (fun h=>?_) <;> simp (disch:=omega) only [h,amL,amT,sA,sB,sC,sD,sE,sF,sG,sH,sI,sJ,sK,sL,sM,sN,sO,↓reduceIte,reduceCtorEq])
  all_goals
   skip
   refine hK2 _ ?_
   refine Aj ?_
   try simp (disch:=omega) only [amL,↓reduceIte]
   simp [inB,h]
theorem Agb (r:Rng) (n:Int):Bu Tryz.prog 59 [avR r,i64 n] (bl (Jk r n)):=by
  refine Bo (v:=[]) (q:=[]) (N:=11) (rs:=[.tmp 4]) Tryz.func59 rfl rfl rfl rfl rfl ?_
  refine Ad fun K1 hK1=>?_
  simp (disch:=omega) only [amL,sA,sB,↓reduceIte]
  refine hK1 _ ?_
  refine Ad fun K2 hK2=>?_
  simp (disch:=omega) only [amL,amT,sA,sF,↓reduceIte,reduceCtorEq]
  repeat' first | (refine Ax (by kernel_rfl) rfl (Lb _ _ _) (by first | exact .inl rfl | exact .inr (.inl rfl)) ?_ ; simp (disch:=omega) only [amL,sA,↓reduceIte])
  refine hK2 _ ?_
  refine Aj ?_
  try simp (disch:=omega) only [amL,↓reduceIte]
  rfl
theorem Ad9 (r:Rng) (h1:-9223372036854775808≤r.hi - r.lo) (h2:r.hi - r.lo < 9223372036854775807):Bu Tryz.prog 69 [avR r] (i64 (Fa r)):=by
  refine Bo (v:=[]) (q:=[]) (N:=9) (rs:=[.tmp 2]) Tryz.func69 rfl rfl rfl rfl rfl ?_
  refine Ad fun K1 hK1=>?_
  simp (disch:=omega) only [amL,sA,↓reduceIte]
  refine hK1 _ ?_
  refine Ad fun K2 hK2=>?_
  simp (disch:=omega) only [amL,amT,sA,sF,↓reduceIte,reduceCtorEq]
  refine hK2 _ ?_
  refine Aj ?_
  try simp (disch:=omega) only [amL,↓reduceIte]
  rfl
theorem Alq {r:Rng} {most:Int}:Hz r most=(decide (0≤r.lo)&&(decide (r.lo≤r.hi)&&(decide (r.hi≤most)&&decide (r.hi - r.lo≤2)))):=rfl
theorem Ack (r:Rng) (most:Int) (hm:most < 9223372036854775807):Bu Tryz.prog 104 [avR r,i64 most] (bl (Hz r most)):=by
  refine Bo (v:=[]) (q:=[]) (N:=29) (rs:=[.tmp 4]) Tryz.func104 rfl rfl rfl rfl rfl ?_
  refine Ad fun K1 hK1=>?_
  simp (disch:=omega) only [amL,sA,sB,↓reduceIte]
  refine hK1 _ ?_
  refine Ad fun K2 hK2=>?_
  simp (disch:=omega) only [amL,amT,sA,sF,↓reduceIte,reduceCtorEq]
  repeat' first | (refine E3 (fun h=>?_) (fun h=>?_) <;> simp (disch:=omega) only [h,amL,amT,sA,sF,↓reduceIte,reduceCtorEq]) | (refine Cz (fun h=>?_) (fun h=>?_) <;> simp (disch:=omega) only [h,amL,amT,sA,sB,sC,sD,sE,sF,sG,sH,sI,sJ,sK,sL,sM,sN,sO,↓reduceIte,reduceCtorEq])
  all_goals
   skip
   refine hK2 _ ?_
   refine Aj ?_
   try simp (disch:=omega) only [amL,↓reduceIte]
   all_goals (simp_all [Alq] <;> omega)
theorem Am8 (v:Ves):Bu Tryz.prog 67 [avV v] (bl (Er v)):=by
  refine Bo (v:=[]) (q:=[]) (N:=16) (rs:=[.tmp 2]) Tryz.func67 rfl rfl rfl rfl rfl ?_
  refine Ad fun K1 hK1=>?_
  simp (disch:=omega) only [amL,sA,↓reduceIte]
  refine hK1 _ ?_
  refine Ad fun K2 hK2=>?_
  simp (disch:=omega) only [amL,amT,sA,sB,sE,sF,↓reduceIte,reduceCtorEq]
  repeat' first | (refine E3 (fun h=>?_) (fun h=>?_) <;> simp (disch:=omega) only [h,amL,amT,sA,sB,sC,sD,sE,sF,sG,sH,sI,sJ,sK,sL,sM,sN,sO,↓reduceIte,reduceCtorEq]) | (refine Cz (fun h=>?_) (fun h=>?_) <;> simp (disch:=omega) only [h,amL,amT,sA,sB,sE,sF,↓reduceIte,reduceCtorEq]) | (refine Ax (by kernel_rfl) rfl (Ack ⟨_,_⟩ _ (by omega)) (by first | exact .inl rfl | exact .inr (.inl rfl)) ?_ ; simp (disch:=omega) only [amL,sA,sF,↓reduceIte]) | (refine Ax (by kernel_rfl) rfl (Lb _ _ _) (by first | exact .inl rfl | exact .inr (.inl rfl)) ?_ ; simp (disch:=omega) only [amL,sA,sF,↓reduceIte])
  all_goals
   skip
   refine hK2 _ ?_
   refine Aj ?_
   try simp (disch:=omega) only [amL,↓reduceIte]
   all_goals simp_all [Er]
theorem Asq {b:Eg} {n:Int} {nb:Nat} {os:Nat→Option AO} {bd:Nat} (hb:os nb=some (.cells (cB b))) (hl:b.vs.length < 1000000) :
    Bh Tryz.prog bd (.fn (.func 103) [] [.ptr nb 0]) [i64 n] os fun res os'=>res=bl (inB n 0 ((b.vs.length:Int) - 1))∧os'=os:=by
  refine B3 (v:=[]) (q:=[]) (N:=10) (rs:=[.tmp 3]) Tryz.func103 rfl (by kernel_rfl) rfl rfl (fun hcl hfree=>?_)
  refine Ad fun K1 hK1=>?_
  simp (disch:=omega) only [amL,sA,sB]
  refine hK1 _ ?_
  refine Ad fun K2 hK2=>?_
  simp (disch:=omega) only [hb,amL,amT,sA,sF,↓reduceIte,reduceCtorEq]
  repeat' first | (refine Ax (by kernel_rfl) rfl (Lb _ _ _) (by first | exact .inl rfl | exact .inr (.inl rfl)) ?_ ; simp (disch:=omega) only [amL,sA,↓reduceIte])
  refine hK2 _ ?_
  refine Aj ?_
  try simp (disch:=omega) only [amL]
  refine A6 (res:=bl _) os (by simp (disch:=omega) only [amL,↓reduceIte]; try rfl) (Sub.refl _) hcl (AV.lives_p _ _) ⟨rfl,rfl⟩
theorem Amb {n:Int} {s:Stp}:F4 n s=(inB s.kind 0 2&&(inB s.frm 0 (n - 1)&&(inB s.to 0 (n - 1)&&((decide (s.frm=s.to) == !decide (s.kind=0))&&Hz s.g 60)))):=rfl
theorem Ay8 (b:Eg) (s:Stp) (hl:b.vs.length < 1000000):Bu Tryz.prog 65 [avB b,avS s] (bl (F4 b.vs.length s)):=by
  refine Bo (v:=[]) (q:=[]) (N:=38) (rs:=[.tmp 4]) Tryz.func65 rfl rfl rfl rfl rfl ?_
  obtain ⟨e,he⟩:∃ e:Bool,(decide (s.frm=s.to) == decide (s.kind≠0))=e:=⟨_,rfl⟩
  refine Ad fun K1 hK1=>?_
  simp (disch:=omega) only [amL,sA,sB,sF,↓reduceIte,reduceCtorEq]
  refine hK1 _ ?_
  refine Ad fun K2 hK2=>?_
  simp (disch:=omega) only [amL,sA,sF,↓reduceIte]
  refine hK2 _ ?_
  refine Ad fun K3 hK3=>?_
  simp (disch:=omega) only [amL,amT,sA,sF,↓reduceIte,reduceCtorEq]
  repeat' first | (refine E3 (fun h=>?_) (fun h=>?_) <;> simp (disch:=omega) only [h,he,amL,amT,sA,sB,sC,sD,sE,sF,sG,sH,sI,sJ,sK,sL,sM,sN,sO,↓reduceIte,reduceCtorEq]) | (refine Cz (fun h=>?_) (fun h=>?_) <;> simp (disch:=omega) only [h,he,amL,amT,sA,sB,sF,↓reduceIte,reduceCtorEq]) | (refine Ax (by kernel_rfl) rfl (Lb _ _ _) (by first | exact .inl rfl | exact .inr (.inl rfl)) ?_ ; simp (disch:=omega) only [amL,sA,↓reduceIte]) | (refine Ax (by kernel_rfl) rfl (Ack ⟨_,_⟩ _ (by omega)) (by first | exact .inl rfl | exact .inr (.inl rfl)) ?_ ; simp (disch:=omega) only [amL,sA,sF,↓reduceIte]) | (refine Cc (bd:=38) (by decide) (Asq (b:=b) rfl hl) (Lg rfl) (by decide) rfl ?_ ; simp (disch:=omega) only [amL,sA,sF,↓reduceIte])
  all_goals
   skip
   refine hK3 _ ?_
   refine Aj ?_
   try simp (disch:=omega) only [amL,↓reduceIte]
   all_goals simp_all [Amb]
theorem Aql {os:Nat→Option AO} {n m:Nat} {x y:Option AO} (hm:os m=none) (hne:n≠m):Sub (upd os n x) (upd (upd os m y) n x):=fun k=>by
  by_cases e:k=n
  · subst e; right; rw [Bc,Bc]
  · rw [Ac e,Ac e]
    by_cases e2:k=m
    · subst e2; left; exact hm
    · right; rw [Ac e2]
theorem Zu {os:Nat→Option AO} {n:Nat} {x:Option AO} (h:os n=x):upd os n x=os:=by
  funext k; by_cases e:k=n
  · subst e; rw [Bc,h]
  · rw [Ac e]
theorem P2 {v:List Liq} {i:Nat} {x:AV} (h:(cW v)[i]?=some x):x.isP=true:=by
  unfold cW at h
  rw [List.getElem?_map,Option.map_eq_some_iff] at h
  obtain ⟨n,_,rfl⟩:=h
  rfl
theorem Tg {v w:List Liq} {tl:List AV} {nv:Nat} {os:Nat→Option AO} (hcl:(Hp os).closed) (ov:os nv=some (.cells (cW v++tl))):(Hp (upd os nv (some (.cells (cW w++tl))))).closed:=by
  refine Cs hcl (AO.lives_cells.2 fun i x hx=>?_)
  have hm:∀ m,(os m).isSome=true→(upd os nv (some (.cells (cW w++tl))) m).isSome=true:=fun m hm=>by
    by_cases e:m=nv
    · subst e; rw [Bc]; rfl
    · rw [Ac e]; exact hm
  by_cases h:i < (cW w).length
  · rw [List.getElem?_append_left h] at hx; exact A9 _ (P2 hx)
  · rw [List.getElem?_append_right (by omega)] at hx
    have h2:=AO.lives_cells.1 (hcl.2 nv _ ov) ((cW v).length+(i - (cW w).length)) x (by rw [List.getElem?_append_right (by omega)]; rw [← hx]; congr 1; omega)
    exact AV.lives_mono hm h2
theorem Lq {g e:Int} (h1:0≤g) (h2:g≤1000000) (h3:0≤e) (h4:e≤1000000000):-9223372036854775808≤(2 * e+g) / (2 * g)∧(2 * e+g) / (2 * g) < 9223372036854775808:=by
  have e1:0≤(2 * e+g) / (2 * g):=Int.ediv_nonneg (by omega) (by omega)
  have e2:=Int.ediv_le_self (2 * g) (show 0≤2 * e+g by omega)
  omega
theorem Afi {n e g:Int} (h1:0≤n) (h2:n≤1000000) (h3:0≤e) (h4:e≤1000000000) (_:0 < g):(0≤n * e∧n * e≤1000000000000000)∧True:=by
  refine ⟨⟨Int.mul_nonneg h1 h3,?_⟩,trivial⟩
  have:=Int.mul_le_mul h2 h4 h3 (by omega)
  omega
theorem Yz (l:Liq) (h:R4 l):Bu Tryz.prog 62 [avL l] (i64 (Q8 l)):=by
  obtain ⟨⟨h1,h2⟩,h3,h4⟩:=h
  refine Bo (v:=[]) (q:=[]) (N:=16) (rs:=[.tmp 2]) Tryz.func62 rfl rfl rfl rfl rfl ?_
  refine Ad fun K1 hK1=>?_
  simp (disch:=omega) only [amL,sA,↓reduceIte]
  refine hK1 _ ?_
  refine Ab fun K2 hK2=>?_
  refine Ad fun K3 hK3=>?_
  simp (disch:=omega) only [amL,amT,sA,sF,↓reduceIte,reduceCtorEq]
  refine hK3 _ ?_
  refine Al rfl (fun h=>MT.x ?_) (fun h=>ME.x ?_)
  all_goals
   first
   |refine MT.mk ?_
    first
    |exact Bool.noConfusion h
    |skip
     try simp only [nrm] at h
     refine Ad fun K4 hK4=>?_
     simp (disch:=omega) only [amL,sA]
     refine hK4 _ ?_
     refine Aj ?_
     try simp (disch:=omega) only [amL,↓reduceIte]
     first | (unfold Q8; rw [if_pos h]; done) | (unfold Q8; rw [if_neg h,Fc (Lq h1 h2 h3 h4).1 (Lq h1 h2 h3 h4).2])
   |refine ME.mk ?_
    first
    |exact Bool.noConfusion h
    |skip
     try simp only [nrm] at h
     refine Am ?_
     refine hK2 _ ?_
  all_goals
   skip
   refine Ad fun K5 hK5=>?_
   simp (disch:=omega) only [amL,amT,sA,sF,↓reduceIte,reduceCtorEq]
   refine hK5 _ ?_
   refine Aj ?_
   try simp (disch:=omega) only [amL,↓reduceIte]
   first | (unfold Q8; rw [if_pos h]; done) | (unfold Q8; rw [if_neg h,Fc (Lq h1 h2 h3 h4).1 (Lq h1 h2 h3 h4).2])
theorem Asp {v:List Liq} {tl:List AV} {s:Stp} {n:Int} {nv:Nat} {os:Nat→Option AO} {bd:Nat} (hw:G1 v) (hs:0≤s.to∧s.to.toNat < v.length∧s.to < 4) (hn:0≤n∧n≤1000000) (ov:os nv=some (.cells (cW v++tl))) :
    Bh Tryz.prog bd (.fn (.func 120) [] []) [.ptr nv 0,avS s,i64 n] os fun res os'=>res=bl (P0 v s.to.toNat n).2∧os'=upd os nv (some (.cells (cW (P0 v s.to.toNat n).1++tl))):=by
  refine B3 (v:=[]) (q:=[]) (N:=19) (rs:=[.tmp 6]) Tryz.func120 rfl (by kernel_rfl) rfl rfl (fun hcl hfree=>?_)
  have hfr0:∀ k,os (bd+k)=none:=fun k=>hfree _ (by omega)
  have hlt:=Ap hfree ov
  obtain ⟨⟨h1,h2⟩,h3,h4⟩:=hw s.to.toNat
  refine Ad fun K1 hK1=>?_
  simp (disch:=omega) only [hfr0,amL,sA,sB,↓reduceIte,reduceCtorEq]
  refine hK1 _ ?_
  refine Ab fun K2 hK2=>?_
  refine Cj (by kernel_rfl) (by kernel_rfl) ?_
  simp (disch:=omega) only [ov,Ac,tkG,Ab2,Hg,amL,amT,sA,sF,sH,↓reduceIte,reduceCtorEq]
  refine hK2 _ ?_
  refine Ad fun K3 hK3=>?_
  simp (disch:=omega) only [amL,sA]
  refine hK3 _ ?_
  refine Aj ?_
  try simp (disch:=omega) only [amL]
  refine A6 (res:=bl _) (upd os nv (some (.cells (cW (P0 v s.to.toNat n).1++tl)))) (by simp (disch:=omega) only [amL,↓reduceIte]; try rfl) (Aql (hfr0 _) (by omega)) (Tg hcl ov) (AV.lives_p _ _) ⟨rfl,rfl⟩
theorem Ay2 {v:List Liq} {tl:List AV} {s:Stp} {n:Int} {nv:Nat} {os:Nat→Option AO} {bd:Nat} (hw:G1 v) (hs:0≤s.frm∧s.frm.toNat < v.length∧s.frm < 4) (hn:0≤n∧n≤1000000) (ov:os nv=some (.cells (cW v++tl))) :
    Bh Tryz.prog bd (.fn (.func 121) [] []) [.ptr nv 0,avS s,i64 n] os fun res os'=>res=bl (Yd v s.frm.toNat n).2∧os'=upd os nv (some (.cells (cW (Yd v s.frm.toNat n).1++tl))):=by
  refine B3 (v:=[]) (q:=[]) (N:=39) (rs:=[.tmp 6]) Tryz.func121 rfl (by kernel_rfl) rfl rfl (fun hcl hfree=>?_)
  have hfr0:∀ k,os (bd+k)=none:=fun k=>hfree _ (by omega)
  have hlt:=Ap hfree ov
  obtain ⟨⟨h1,h2⟩,h3,h4⟩:=hw s.frm.toNat
  refine Ad fun K1 hK1=>?_
  simp (disch:=(first | omega | (simp only [List.length_set]; omega))) only [hfr0,amL,sA,sB,↓reduceIte,reduceCtorEq]
  refine hK1 _ ?_
  refine Ab fun K2 hK2=>?_
  refine Cj (by kernel_rfl) (by kernel_rfl) ?_
  simp (disch:=(first | omega | (simp only [List.length_set]; omega))) only [ov,Ac,Ds,Ab2,Hg,amL,amT,sA,sF,sH,↓reduceIte,reduceCtorEq]
  refine hK2 _ ?_
  refine Ab fun K3 hK3=>?_
  refine Cj (by kernel_rfl) (by kernel_rfl) ?_
  simp (disch:=(first | omega | (simp only [List.length_set]; omega))) only [hfr0,Ac,Ds,Hg,Kh,amL,amT,sA,sB,sE,sF,sH,↓reduceIte,reduceCtorEq]
  refine hK3 _ ?_
  refine Ad fun K4 hK4=>?_
  simp (disch:=(first | omega | (simp only [List.length_set]; omega))) only [amL,amT,sA,↓reduceIte,reduceCtorEq]
  repeat' first | (refine E3 (fun h=>?_) (fun h=>?_) <;> simp (disch:=(first | omega | (simp only [List.length_set]; omega))) only [h,amL,amT,sA,sF,↓reduceIte,reduceCtorEq]) | (refine Cz (fun h=>?_) (fun h=>?_) <;> simp (disch:=(first | omega | (simp only [List.length_set]; omega))) only [h,ov,hfr0,Ac,Ds,J2,Ab2,Hg,Kh,amL,amT,sA,sB,sC,sD,sE,sF,sG,sH,sI,sJ,sK,sL,sM,sN,sO,↓reduceIte,reduceCtorEq])
  all_goals
   skip
   refine hK4 _ ?_
   refine Aj ?_
   try simp (disch:=(first | omega | (simp only [List.length_set]; omega))) only [amL]
   refine A6 (res:=bl _) (upd os nv (some (.cells (cW (v.set s.frm.toNat ⟨_,(v.getD s.frm.toNat default).e⟩)++tl)))) (by simp (disch:=(first | omega | (simp only [List.length_set]; omega))) only [amL,↓reduceIte]; try rfl) (by first | ((repeat' first | exact Sub.refl _ | refine Sub.skip (by first | exact hfr0 _ | (simp (disch:=omega) only [Ac]; exact hfr0 _)) ?_ | refine Sub.both ?_); done) | fail) (Tg hcl ov) (AV.lives_p _ _) ⟨?_,?_⟩
   all_goals (unfold Yd; simp_all)
theorem Ayx {v:List Liq} {tl:List AV} {s:Stp} {n:Int} {nv:Nat} {os:Nat→Option AO} {bd:Nat} (hw:G1 v) (hs:0≤s.frm∧s.frm.toNat < v.length∧s.frm < 4) (ht:0≤s.to∧s.to.toNat < v.length∧s.to < 4) (hn:0≤n∧n≤1000000) (ov:os nv=some (.cells (cW v++tl))) :
    Bh Tryz.prog bd (.fn (.func 119) [] []) [.ptr nv 0,avS s,i64 n] os fun res os'=>res=bl (G8 v s.frm.toNat s.to.toNat n).2∧os'=upd os nv (some (.cells (cW (G8 v s.frm.toNat s.to.toNat n).1++tl))):=by
  refine B3 (v:=[]) (q:=[]) (N:=69) (rs:=[.tmp 6]) Tryz.func119 rfl (by kernel_rfl) rfl rfl (fun hcl hfree=>?_)
  have hfr0:∀ k,os (bd+k)=none:=fun k=>hfree _ (by omega)
  have hlt:=Ap hfree ov
  obtain ⟨⟨h1,h2⟩,h3,h4⟩:=hw s.frm.toNat
  obtain ⟨⟨k1,k2⟩,k3,k4⟩:=hw s.to.toNat
  refine Ad fun K1 hK1=>?_
  simp (disch:=(first | omega | (simp only [List.length_set]; omega))) only [hfr0,amL,sA,sB,↓reduceIte,reduceCtorEq]
  refine hK1 _ ?_
  refine Ab fun K2 hK2=>?_
  refine Cj (by kernel_rfl) (by kernel_rfl) ?_
  simp (disch:=(first | omega | (simp only [List.length_set]; omega))) only [amL,amT,sA,sF,sH,↓reduceIte,reduceCtorEq]
  refine hK2 _ ?_
  refine Ab fun K3 hK3=>?_
  refine Ad fun K4 hK4=>?_
  simp (disch:=(first | omega | (simp only [List.length_set]; omega))) only [ov,Ac,Ds,amL,amT,sA,sF,↓reduceIte,reduceCtorEq]
  refine hK4 _ ?_
  refine Al rfl (fun h=>MT.x ?_) (fun h=>ME.x ?_)
  all_goals
   first
   |refine MT.mk ?_
    first
    |exact Bool.noConfusion h
    |skip
     try simp only [nrm] at h
     refine Ad fun K5 hK5=>?_
     simp (disch:=(first | omega | (simp only [List.length_set]; omega))) only [amL,sA]
     refine hK5 _ ?_
     refine Aj ?_
     try simp (disch:=(first | omega | (simp only [List.length_set]; omega))) only [amL]
     first | (refine A6 (res:=bl _) os (by simp (disch:=(first | omega | (simp only [List.length_set]; omega))) only [amL,↓reduceIte]; try rfl) (by first | ((repeat' first | exact Sub.refl _ | refine Sub.skip (by first | exact hfr0 _ | (simp (disch:=omega) only [Ac]; exact hfr0 _)) ?_ | refine Sub.both ?_); done) | fail) hcl (AV.lives_p _ _) ⟨?_,?_⟩ ; all_goals first | (rw [G8,if_pos h]; done) | (rw [G8,if_pos h,Zu ov]; done) | (rw [G8,if_neg (by assumption),if_neg h]; done) | (rw [G8,if_neg (by assumption),if_neg h,Zu ov]; done)) | (refine A6 (res:=bl _) (upd os nv (some (.cells (cW (Mj v s.frm.toNat s.to.toNat n)++tl)))) (by simp (disch:=(first | omega | (simp only [List.length_set]; omega))) only [ov,hfr0,Ac,Ds,J2,Ab2,Aos,Hg,Kh,List.set_set,Bz,amL,amT,sA,sB,sC,sD,sE,sF,sG,sH,sI,sJ,sK,sL,sM,sN,sO,↓reduceIte,reduceCtorEq]; try rfl) (by first | ((repeat' first | exact Sub.refl _ | refine Sub.skip (by first | exact hfr0 _ | (simp (disch:=omega) only [Ac]; exact hfr0 _)) ?_ | refine Sub.both ?_); done) | fail) (Tg hcl ov) (AV.lives_p _ _) ⟨?_,?_⟩ ; all_goals (rw [G8,if_neg (by assumption),if_pos h])) | trace_state
   |refine ME.mk ?_
    first
    |exact Bool.noConfusion h
    |skip
     try simp only [nrm] at h
     refine Am ?_
     refine hK3 _ ?_
  all_goals
   skip
   refine Ab fun K6 hK6=>?_
   refine Ad fun K7 hK7=>?_
   simp (disch:=(first | omega | (simp only [List.length_set]; omega))) only [amL,amT,sA,sF,↓reduceIte,reduceCtorEq]
   refine hK7 _ ?_
   refine Al rfl (fun h=>MT.x ?_) (fun h=>ME.x ?_)
   all_goals
    first
    |refine MT.mk ?_
     first
     |exact Bool.noConfusion h
     |skip
      try simp only [nrm] at h
      refine Ab fun K8 hK8=>?_
      refine Cj (by kernel_rfl) (by kernel_rfl) ?_
      have hg:0 < (v.getD s.frm.toNat default).g:=by omega
      have hb:=Afi (n:=n) hn.1 hn.2 h3 h4 hg
      have hm:IntKind.i64.wrap (n * (v.getD s.frm.toNat default).e)=n * (v.getD s.frm.toNat default).e:=Fc (by omega) (by omega)
      have htd:(n * (v.getD s.frm.toNat default).e).tdiv (v.getD s.frm.toNat default).g=G2 v s.frm.toNat n:=Int.tdiv_eq_ediv_of_nonneg hb.1.1
      have hx:=Uz (n:=n) hn.1 (show n≤(v.getD s.frm.toNat default).g by omega) h3 hg
      have hx1:0≤G2 v s.frm.toNat n:=hx.1
      have hx2:G2 v s.frm.toNat n≤(v.getD s.frm.toNat default).e:=hx.2
      obtain ⟨⟨q1,q2⟩,q3,q4⟩:=Ah5 (k:=s.frm.toNat) (a:=⟨(v.getD s.frm.toNat default).g - n,(v.getD s.frm.toNat default).e - G2 v s.frm.toNat n⟩) hw ⟨⟨show 0≤(v.getD s.frm.toNat default).g - n by omega,show (v.getD s.frm.toNat default).g - n≤1000000 by omega⟩,show 0≤(v.getD s.frm.toNat default).e - G2 v s.frm.toNat n by omega,show (v.getD s.frm.toNat default).e - G2 v s.frm.toNat n≤1000000000 by omega⟩ s.to.toNat
      simp (disch:=(first | omega | (simp only [List.length_set]; omega))) only [hm,htd,ov,Ac,Ds,J2,amL,amT,sA,sF,↓reduceIte,reduceCtorEq]
      refine hK8 _ ?_
      refine Ab fun K9 hK9=>?_
      refine Cj (by kernel_rfl) (by kernel_rfl) ?_
      simp (disch:=(first | omega | (simp only [List.length_set]; omega))) only [ov,Ac,Ds,J2,Ab2,Aos,Hg,Kh,List.set_set,amL,amT,sA,sB,sE,sF,↓reduceIte,reduceCtorEq]
      refine hK9 _ ?_
      refine Cj (by kernel_rfl) (by kernel_rfl) ?_
      simp (disch:=(first | omega | (simp only [List.length_set]; omega))) only [Ds,J2,Ab2,Aos,Hg,Kh,List.set_set,Bz,amL,amT,sA,sB,sE,sF,↓reduceIte,reduceCtorEq]
      refine hK6 _ ?_
    |refine ME.mk ?_
     first
     |exact Bool.noConfusion h
     |skip
      try simp only [nrm] at h
      refine Am ?_
      refine hK6 _ ?_
   all_goals
    skip
    refine Ad fun K10 hK10=>?_
    simp (disch:=(first | omega | (simp only [List.length_set]; omega))) only [amL,sA]
    refine hK10 _ ?_
    refine Aj ?_
    try simp (disch:=(first | omega | (simp only [List.length_set]; omega))) only [amL]
    first | (refine A6 (res:=bl _) os (by simp (disch:=(first | omega | (simp only [List.length_set]; omega))) only [amL,↓reduceIte]; try rfl) (by first | ((repeat' first | exact Sub.refl _ | refine Sub.skip (by first | exact hfr0 _ | (simp (disch:=omega) only [Ac]; exact hfr0 _)) ?_ | refine Sub.both ?_); done) | fail) hcl (AV.lives_p _ _) ⟨?_,?_⟩ ; all_goals first | (rw [G8,if_pos h]; done) | (rw [G8,if_pos h,Zu ov]; done) | (rw [G8,if_neg (by assumption),if_neg h]; done) | (rw [G8,if_neg (by assumption),if_neg h,Zu ov]; done)) | (refine A6 (res:=bl _) (upd os nv (some (.cells (cW (Mj v s.frm.toNat s.to.toNat n)++tl)))) (by simp (disch:=(first | omega | (simp only [List.length_set]; omega))) only [amL,↓reduceIte]; try rfl) (by first | ((repeat' first | exact Sub.refl _ | refine Sub.skip (by first | exact hfr0 _ | (simp (disch:=omega) only [Ac]; exact hfr0 _)) ?_ | refine Sub.both ?_); done) | fail) (Tg hcl ov) (AV.lives_p _ _) ⟨?_,?_⟩ ; all_goals (rw [G8,if_neg (by assumption),if_pos h])) | trace_state
theorem Axl:Kd Tryz.prog 194 14:=Ant (by kernel_rfl)
def Al6:Value:=.agg #[.int .i64 0,.int .i64 0,.int .i64 0,.int .i64 0,.int .i64 0,.int .i64 0,.int .i64 0,.int .i64 0,.bool false]
theorem Awb:∀ w,(zeroValue 196).run Tryz.prog w=.ok Al6 w:=fun w=>by
  have h:(Tryz.prog.info? 196).map (fun i=>i.zero)=some (some Al6):=by kernel_rfl
  cases hi:Tryz.prog.info? 196 with
  | none=>rw [hi] at h; cases h
  | some i=>
    rw [hi] at h
    have hz:i.zero=some Al6:=by simpa using h
    simp [zeroValue,typeInfo,hi,hz]
theorem V9:Bd Al6=.agg [i64 0,i64 0,i64 0,i64 0,i64 0,i64 0,i64 0,i64 0,bl false]:=rfl
abbrev Ahp:List AV:=[.fn (.func 119) [] [],.fn (.func 120) [] [],.fn (.func 121) [] []]
abbrev Ah9 (k:Int):AV:=.fn (.func (if k=0 then 119 else if k=1 then 120 else 121)) [] []
theorem Ak6:Bu Tryz.prog 86 [] (.agg Ahp):=by
  refine Bo (v:=[]) (q:=[]) (N:=5) (rs:=[.cell 0 158]) Tryz.func86 rfl rfl rfl rfl rfl ?_
  refine Ad fun K1 hK1=>?_
  simp (disch:=omega) only [amL,amT,sA,sB,↓reduceIte]
  refine hK1 _ ?_
  refine Ad fun K2 hK2=>?_
  simp (disch:=omega) only [amL,amT,sA,sB,sE,sF,↓reduceIte,reduceCtorEq]
  refine hK2 _ ?_
  refine Aj ?_
  try simp (disch:=omega) only [Apq,amL,amT,sB,↓reduceIte,reduceCtorEq]
  skip
theorem Zg {esz:Nat→Nat} {ea:Nat→Option Bool} {k:Int} (hz:esz 157=1) (he:ea 157=some true) (h0:0≤k) (h3:k≤2):Afv esz ea (.agg Ahp) (.arr 3 157) (i64 k)=some (.pure (.agg [Ah9 k])):=by
  have hk4:k=0∨k=1∨k=2:=by omega
  simp only [Afv,he,hz]
  rcases hk4 with rfl | rfl | rfl <;> rfl
theorem Bci {v:List Liq} {tl:List AV} {s:Stp} {n:Int} {nv:Nat} {os:Nat→Option AO} {bd:Nat} (_:0≤s.kind∧s.kind≤2) (hw:G1 v) (hs:0≤s.frm∧s.frm.toNat < v.length∧s.frm < 4) (ht:0≤s.to∧s.to.toNat < v.length∧s.to < 4) (hn:0≤n∧n≤1000000) (ov:os nv=some (.cells (cW v++tl))) :
    Bh Tryz.prog bd (Ah9 s.kind) [.ptr nv 0,avS s,i64 n] os fun res os'=>res=bl (Gv v s n).2∧os'=upd os nv (some (.cells (cW (Gv v s n).1++tl))):=by
  unfold Ah9 Gv
  split
  · exact Ayx hw hs ht hn ov
  · split
    · exact Asp hw ht hn ov
    · exact Ay2 hw hs hn ov
structure Wk (vs:List Ves) (ss:List Stp) (nw m:Nat) (os:Nat→Option AO):Prop where
  ow:os nw=some (.cells [.p (slV vs),.p (slS ss),.mp m])
  om:os m=some (.obj (F8 14 (Si vs)))
theorem D7 (v:List Liq) (b:Bool):(AV.tup [avW v,bl b]).isP=true:=by
  have h:AV.isP.isPL (cW v)=true:=(Je _).2 fun i x hx=>P2 hx
  simp only [AV.isP,AV.isP.isPL,h,Bool.and_self]
theorem Jh {P:Program} {s:St} {i j n off:Nat} {ty:TypeId} {g:Bool} {cs:List AV} {x:AV} (h1:s.t i=.ptr n off) (h2:(Aa P ty).agg=some g) (h3:s.o n=some (.cells cs)) (h4:Ai g (Aa P ty).sz (cs.drop off)=some x):(Cw P s [.cell i ty,.tmp j]).map Df=some (.tup [x,s.t j]):=by
  simp only [Cw,F1,h1,h2,h3,h4,Option.map_some]; rfl
theorem Bd2 {vs:List Ves} {ss:List Stp} {v:List Liq} {s:Stp} {n:Int} {nw m:Nat} {os:Nat→Option AO} {bd:Nat} (hW:Wk vs ss nw m os) (hv4:v.length=4) (hw:G1 v) (hvs:vs.length≤4) (hk:0≤s.kind∧s.kind≤2) (hs:0≤s.frm∧s.frm < vs.length) (ht:0≤s.to∧s.to < vs.length) (hn:0≤n∧n≤1000000) (hkd:(kD s n v).all inR=true) :
    Bh Tryz.prog bd (.fn (.func 88) [] []) [.ptr nw 0,avW v,avS s,i64 n] os fun res os'=>res=.tup [avW (doS vs v s n).1,bl (doS vs v s n).2]∧os'=os:=by
  refine B3 (v:=[]) (q:=[]) (N:=69) (rs:=[.cell 8 120,.tmp 9]) Tryz.func88 rfl (by kernel_rfl) rfl rfl (fun hcl hfree=>?_)
  have hfr0:∀ k,os (bd+k)=none:=fun k=>hfree _ (by omega)
  obtain ⟨ow,om⟩:=hW
  have hlw:=Ap hfree ow
  have hlm:=Ap hfree om
  have l4:(Gv v s n).1.length=4:=by rw [Z1,hv4]
  have ld:(doS vs v s n).1.length=4:=by rw [Aaw,hv4]
  have hmc:Bd (Si vs (kD s n v))=.agg (cW (doS vs v s n).1++[bl (doS vs v s n).2]):=by unfold Si; rw [Ax5,Aiu]
  have hix:Afv (fun e=>(Aa Tryz.prog e).sz) (fun e=>(Aa Tryz.prog e).agg) (.agg Ahp) (.arr 3 157) (i64 s.kind)=some (.pure (.agg [Ah9 s.kind])):=Zg (by simp only [amT]) (by simp only [amT]; rfl) hk.1 hk.2
  refine Ad fun K1 hK1=>?_
  simp (disch:=(first | assumption | omega | (simp only [List.length_set]; omega))) only [hfr0,Ac,amL,amT,sA,sB,sF,↓reduceIte,reduceCtorEq]
  refine hK1 _ ?_
  refine Ad fun K2 hK2=>?_
  simp (disch:=(first | assumption | omega | (simp only [List.length_set]; omega))) only [hfr0,Ac,Aku,Atm,Br,Bz,amL,amT,sA,sB,sE,sF,↓reduceIte,reduceCtorEq]
  refine hK2 _ ?_
  refine Ab fun K3 hK3=>?_
  refine Vj (by kernel_rfl) (by kernel_rfl) ?_
  simp (disch:=(first | assumption | omega | (simp only [List.length_set]; omega))) only [ow,Ac,Aku,Br,amL,amT,sA,sB,sF,↓reduceIte,reduceCtorEq]
  refine Afy rfl (by simp only [amT]) Awb rfl T8 Axl (by simp (disch:=omega) only [Ac]; exact om) Agu (Aln hv4) hkd ?_ ?_ <;> simp (disch:=(first | assumption | omega | (simp only [List.length_set]; omega))) only [hfr0,Ac,App,Avo,V9,hmc,Bz,amL,amT,sA,sB,sF,↓reduceIte]
  all_goals
   skip
   refine hK3 _ ?_
   refine Ab fun K4 hK4=>?_
   refine Ad fun K5 hK5=>?_
   simp (disch:=(first | assumption | omega | (simp only [List.length_set]; omega))) only [amL,sA,↓reduceIte]
   refine hK5 _ ?_
   refine Al rfl (fun h=>MT.x ?_) (fun h=>ME.x ?_)
   all_goals
    first
    |refine MT.mk ?_
     first
     |exact Bool.noConfusion h
     |skip
      try simp only [] at h
      refine Ad fun K6 hK6=>?_
      simp (disch:=(first | assumption | omega | (simp only [List.length_set]; omega))) only [Ac,Aku,Bc9,Br,Bz,amL,amT,sA,sB,sE,sF,↓reduceIte,reduceCtorEq]
      refine hK6 _ ?_
      refine Ab fun K7 hK7=>?_
      refine Cj (by kernel_rfl) (by kernel_rfl) ?_
      simp (disch:=(first | assumption | omega | (simp only [List.length_set]; omega))) only [amL]
      repeat' first | (refine E3 (fun h=>?_) (fun h=>?_) <;> simp (disch:=(first | assumption | omega | (simp only [List.length_set]; omega))) only [h,ow,om,hfr0,Ac,Aku,App,Atm,Axi,Bc9,Avo,Aio,Azy,Avn,Asx,Awy,Ag4,Br,V9,hmc,We,hix,Dj,Bz,Ds,J2,amL,amT,sA,sB,sC,sD,sE,sF,sG,sH,sI,sJ,sK,sL,sM,sN,sO,↓reduceIte,reduceCtorEq]) | (refine Cz (fun h=>?_) (fun h=>?_) <;> simp (disch:=(first | assumption | omega | (simp only [List.length_set]; omega))) only [h,ow,Ac,App,Azy,Dj,Bz,Ds,amL,amT,sA,sB,sF,sH,↓reduceIte,reduceCtorEq]) | (refine Ax (by kernel_rfl) rfl (Ak6) (by first | exact .inl rfl | exact .inr (.inl rfl)) ?_ ; simp (disch:=(first | assumption | omega | (simp only [List.length_set]; omega))) only [Ac,We,hix,amL,amT,sA,sB,sF,↓reduceIte,reduceCtorEq]) | (refine A2 [(0,.ptr nw 0),(3,i64 n),(5,.ptr (bd+5) 0),(6,.ptr (bd+6) 0),(8,.ptr (bd+8) 0),(10,.ptr (bd+10) 0),(11,.ptr (bd+11) 0)] (by decide) (Bci (v:=v) (tl:=[bl false]) (nv:=bd+11) (bd:=bd+69) hk hw ⟨hs.1,by omega,by omega⟩ ⟨ht.1,by omega,by omega⟩ hn (by first | (simp (disch:=(first | assumption | omega | (simp only [List.length_set]; omega))) only [amL]; done) | fail)) (fun q hq=>by simp (disch:=omega) only [Ac]; exact hfree q (by omega)) (Nat.le_add_right _ _) (fun res os2 hR hcl2 hlv2=>?_) ; obtain ⟨rfl,rfl⟩:=hR ; simp (disch:=(first | assumption | omega | (simp only [List.length_set]; omega))) only [ow,Ac,Bz,amL,sA,sF,↓reduceIte,reduceCtorEq])
      all_goals
       skip
       refine hK7 _ ?_
       refine Cj (by kernel_rfl) (by kernel_rfl) ?_
       simp (disch:=(first | assumption | omega | (simp only [List.length_set]; omega))) only [ow,Ac,Aku,App,Asx,Br,amL,amT,sA,sB,sF,↓reduceIte,reduceCtorEq]
       all_goals (refine Ae9 (k:=194) (e:=196) (by simp only [amT]) Axl (by simp (disch:=omega) only [Ac]; exact om) Agu (Aln hv4) hkd T8 (by rw [hmc]; first | (simp_all [doS]; done) | (omega)) ?_ ; simp (disch:=(first | assumption | omega | (simp only [List.length_set]; omega))) only [amL])
       all_goals
        skip
        refine hK4 _ ?_
    |refine ME.mk ?_
     first
     |exact Bool.noConfusion h
     |skip
      try simp only [] at h
      refine Am ?_
      refine hK4 _ ?_
   all_goals
    skip
    refine Ab fun K8 hK8=>?_
    refine Al2 [.sto [11] 8,.sto [67] 8] (by kernel_rfl) (by kernel_rfl) ?_
    simp (disch:=(first | assumption | omega | (simp only [List.length_set]; omega))) only [Ac,Aku,App,Aio,Avn,Ag4,amL,amT,sA,sB,sE,sF,↓reduceIte,reduceCtorEq]
    refine ⟨by simp [Cf.ok,Vs,T,AV.known,AV.clean],?_⟩
    all_goals
     skip
     refine hK8 _ ?_
     refine Aj ?_
     try simp (disch:=(first | assumption | omega | (simp only [List.length_set]; omega))) only [amL]
     all_goals (refine A6 (res:=.tup [avW (doS vs v s n).1,bl (doS vs v s n).2]) os ?_ (by first | ((repeat' first | exact Sub.refl _ | refine Sub.skip (by first | exact hfr0 _ | (simp (disch:=omega) only [Ac]; exact hfr0 _)) ?_ | refine Sub.both ?_); done) | fail) hcl (A9 _ (D7 _ _)) ⟨rfl,rfl⟩ ; refine (Jh (n:=bd+8) (off:=0) (g:=true) (cs:=cW (doS vs v s n).1) (x:=avW (doS vs v s n).1) (by simp (disch:=(first | assumption | omega | (simp only [List.length_set]; omega))) only [amL,sF,↓reduceIte,reduceCtorEq]) (by simp only [amT]; rfl) (by simp (disch:=(first | assumption | omega | (simp only [List.length_set]; omega))) only [amL]; try rfl) (by simp only [amT,List.drop_zero]; exact Aat ld)).trans ?_ ; simp (disch:=(first | assumption | omega | (simp only [List.length_set]; omega))) only [amL,↓reduceIte] ; all_goals first | rfl | (simp_all [doS]; done) | (omega))
theorem F3 {os:Nat→Option AO} {n:Nat} {cs:List AV} (hcl:(Hp os).closed) (h:∀ x ∈ cs,x.isP=true):(Hp (upd os n (some (.cells cs)))).closed:=
  Cs hcl (AO.lives_cells.2 fun _ x hx=>A9 _ (h x (List.mem_of_getElem? hx)))
theorem Ee {os:Nat→Option AO} {n:Nat} {v:List Liq} (hcl:(Hp os).closed):(Hp (upd os n (some (.cells (cW v))))).closed:=F3 hcl fun x hx=>by
  obtain ⟨i,hi⟩:=List.mem_iff_getElem?.1 hx
  exact P2 hi
theorem Xk {vs:List Ves} {k:Nat} (h:k < vs.length):vs.drop k=vs.getD k default :: vs.drop (k+1):=Abd default h
theorem T7 {vs:List Ves} {gs ds:List Int} {k:Nat} {v:List Liq} {R:List Liq × Bool} (h:k < vs.length) (h2:(vs.getD k default).room < gs.getD k 0) (hr:Gb (vs.drop k) gs ds k v=R):R=(v,false):=by
  rw [Xk h] at hr; unfold Gb at hr; rw [if_pos h2] at hr; exact hr.symm
theorem Af8 {vs:List Ves} {gs ds:List Int} {k:Nat} {v:List Liq} {R:List Liq × Bool} (h:k < vs.length) (h2:¬ (vs.getD k default).room < gs.getD k 0) (hr:Gb (vs.drop k) gs ds k v=R):Gb (vs.drop (k+1)) gs ds (k+1) (v.set k ⟨gs.getD k 0,gs.getD k 0 * ds.getD k 0⟩)=R:=by
  rw [Xk h] at hr; unfold Gb at hr; rw [if_neg h2] at hr; exact hr
theorem Y6 {vs:List Ves} {gs ds:List Int} {k:Nat} {v:List Liq} {R:List Liq × Bool} (h:vs.length≤k) (hr:Gb (vs.drop k) gs ds k v=R):R=(v,true):=by
  rw [List.drop_of_length_le h] at hr; exact hr.symm
theorem Aqn {a b:Int} (h1:0≤a∧a≤100000) (h2:0≤b∧b≤100000):0≤a * b∧a * b≤10000000000:=by
  have e1:=Int.mul_nonneg h1.1 h2.1
  have e2:=Int.mul_le_mul h1.2 h2.2 h2.1 (by omega)
  omega
theorem Dp {b:Eg} {os:Nat→Option AO} {bd:Nat} :
    Bh Tryz.prog bd (.fn (.func 60) [] []) [avB b] os fun res os'=>res=.ptr (bd+6) 0∧os'=upd (upd os (bd+4) (some (.obj (F8 14 (Si b.vs))))) (bd+6) (some (.cells [.p (slV b.vs),.p (slS b.ss),.mp (bd+4)])):=by
  refine B3 (v:=[]) (q:=[]) (N:=7) (rs:=[.tmp 2]) Tryz.func60 rfl (by kernel_rfl) rfl rfl (fun hcl hfree=>?_)
  have hfr0:∀ k,os (bd+k)=none:=fun k=>hfree _ (by omega)
  refine Ad fun K1 hK1=>?_
  simp (disch:=omega) only [hfr0,amL,sA,↓reduceIte]
  refine hK1 _ ?_
  refine Ad fun K2 hK2=>?_
  simp (disch:=omega) only [amL,amT,sA,sB,sF,↓reduceIte]
  refine Aea 14 (Si b.vs) (by decide) (by simp (disch:=omega) only [hfr0,Ac]) ?_
  simp (disch:=omega) only [hfr0,Ac,amL,amT,sA,sB,sE,sF,↓reduceIte]
  all_goals
   skip
   refine hK2 _ ?_
   refine Aj ?_
   try simp (disch:=omega) only [amL]
   refine A6 (res:=.ptr (bd+6) 0) (upd (upd os (bd+4) (some (.obj (F8 14 (Si b.vs))))) (bd+6) (some (.cells [.p (slV b.vs),.p (slS b.ss),.mp (bd+4)]))) rfl (by first | ((repeat' first | exact Sub.refl _ | refine Sub.skip (by first | exact hfr0 _ | (simp (disch:=omega) only [Ac]; exact hfr0 _)) ?_ | refine Sub.both ?_); done) | fail) (Cs (Cs hcl (AO.lives_obj _ _)) ?_) ?_ ⟨rfl,rfl⟩
   · rw [Dw]; simp (disch:=omega) only [Cq,Cm,V1,Sf,Ac,Bc,Option.isSome_some,and_self]
   · rw [C8]; simp only [Bc,Option.isSome_some]
theorem Ahn {vs:List Ves} {ss:List Stp} {gs ds:List Int} {nw m:Nat} {os:Nat→Option AO} {bd:Nat} (hW:Wk vs ss nw m os) (hvs:vs.length≤4) (hg1:gs.length=vs.length) (hd1:ds.length=vs.length) (hg:∀ k,0≤gs.getD k 0∧gs.getD k 0≤100000) (hd:∀ k,0≤ds.getD k 0∧ds.getD k 0≤100000) :
    Bh Tryz.prog bd (.fn (.func 101) [] []) [.ptr nw 0,isl gs,isl ds] os fun res os'=>res=.tup [avW (M7 vs gs ds).1,bl (M7 vs gs ds).2]∧os'=os:=by
  refine B3 (v:=[]) (q:=[]) (N:=47) (rs:=[.cell 6 120,.tmp 7]) Tryz.func101 rfl (by kernel_rfl) rfl rfl (fun hcl hfree=>?_)
  have hfr0:∀ k,os (bd+k)=none:=fun k=>hfree _ (by omega)
  obtain ⟨ow,om⟩:=hW
  have hlw:=Ap hfree ow
  refine Ad fun K1 hK1=>?_
  simp (disch:=(first | assumption | omega | (simp only [List.length_set]; omega))) only [hfr0,amL,amT,sA,sB,↓reduceIte]
  refine hK1 _ ?_
  refine Ab fun K2 hK2=>?_
  refine Ad fun K3 hK3=>?_
  simp (disch:=(first | assumption | omega | (simp only [List.length_set]; omega))) only [ow,Ac,amL,amT,sA,↓reduceIte,reduceCtorEq]
  refine hK3 _ ?_
  refine Au ?_
  skip
  refine Bg (α:=Nat × List Liq) (fun x=>⟨T [(0,.ptr nw 0),(1,isl gs),(2,isl ds),(6,.ptr (bd+6) 0),(14,.p (slV vs)),(15,i64 vs.length),(16,i64 (x.1:Int))],upd os (bd+6) (some (.cells (cW x.2)))⟩) (fun x=>vs.length - x.1) (fun x=>x.1≤vs.length∧x.2.length=4∧Gb (vs.drop x.1) gs ds x.1 x.2=M7 vs gs ds) (0,v0) ?_ ?_ (fun x hx4 K4 hK4=>?_)
  · exact ⟨by simp,rfl,rfl⟩
  · refine G9 ?_ ?_ ?_ ?_ <;> (try simp (disch:=(first | assumption | omega | (simp only [List.length_set]; omega))) only [ow,Ac,amL,sF,↓reduceIte,reduceCtorEq]); all_goals first | rfl | exact Ee hcl | exact (by first | ((repeat' first | exact Sub.refl _ | refine Sub.skip (by first | exact hfr0 _ | (simp (disch:=omega) only [Ac]; exact hfr0 _)) ?_ | refine Sub.both ?_); done) | fail) | trace_state
  obtain ⟨k,v⟩:=x; dsimp only at hx4 ⊢; obtain ⟨hk,hv4,hr⟩:=hx4; have hgk:=hg k; have hdk:=hd k; have hmu:=Aqn hgk hdk
  refine Ad fun K5 hK5=>?_
  simp (disch:=(first | assumption | omega | (simp only [List.length_set]; omega))) only [amL,amT,sA,sF,↓reduceIte,reduceCtorEq]
  refine hK5 _ ?_
  refine Ab fun K6 hK6=>?_
  refine Al rfl (fun h=>MT.x ?_) (fun h=>ME.x ?_)
  all_goals
   first
   |refine MT.mk ?_
    first
    |exact Bool.noConfusion h
    |skip
     try simp only [nrm] at h
     refine Am ?_
     refine hK6 _ ?_
   |refine ME.mk ?_
    first
    |exact Bool.noConfusion h
    |skip
     try simp only [nrm] at h
     refine Bq ?_
     refine hK2 _ ?_
     refine Ad fun K7 hK7=>?_
     simp (disch:=(first | assumption | omega | (simp only [List.length_set]; omega))) only [Bz,Br,A0,Cb,amL,amT,sA,sF,↓reduceIte,reduceCtorEq]
     refine hK7 _ ?_
     refine Aj ?_
     try simp (disch:=(first | assumption | omega | (simp only [List.length_set]; omega))) only [amL]
     all_goals ((first | (have e:=T7 (by omega) (by assumption) hr) | (have e:=Y6 (by omega) hr)) ; rw [e] ; refine A6 (res:=.tup [avW v,bl _]) os ?_ (by first | ((repeat' first | exact Sub.refl _ | refine Sub.skip (by first | exact hfr0 _ | (simp (disch:=omega) only [Ac]; exact hfr0 _)) ?_ | refine Sub.both ?_); done) | fail) hcl (A9 _ (D7 _ _)) ⟨rfl,rfl⟩ ; refine (Jh (n:=bd+6) (off:=0) (g:=true) (cs:=cW v) (x:=avW v) (by simp (disch:=(first | assumption | omega | (simp only [List.length_set]; omega))) only [amL,sF,↓reduceIte,reduceCtorEq]) (by simp only [amT]; rfl) (by simp (disch:=(first | assumption | omega | (simp only [List.length_set]; omega))) only [amL]; try rfl) (by simp only [amT,List.drop_zero]; exact Aat hv4)).trans ?_ ; simp (disch:=(first | assumption | omega | (simp only [List.length_set]; omega))) only [amL,↓reduceIte] ; all_goals first | rfl | (omega))
  all_goals
   skip
   refine Ab fun K8 hK8=>?_
   refine Au ?_
   refine Ad fun K9 hK9=>?_
   simp (disch:=(first | assumption | omega | (simp only [List.length_set]; omega))) only [hfr0,Ac,Bz,Dj,amL,amT,sA,sB,sF,↓reduceIte,reduceCtorEq]
   refine hK9 _ ?_
   refine Ab fun K10 hK10=>?_
   refine Ab fun K11 hK11=>?_
   refine Cj (by kernel_rfl) (by kernel_rfl) ?_
   simp (disch:=(first | assumption | omega | (simp only [List.length_set]; omega))) only [amL,amT,sA,sF,↓reduceIte,reduceCtorEq]
   refine hK11 _ ?_
   refine Al rfl (fun h=>MT.x ?_) (fun h=>ME.x ?_)
   all_goals
    first
    |refine MT.mk ?_
     first
     |exact Bool.noConfusion h
     |skip
      try simp only [nrm] at h
      refine Ad fun K12 hK12=>?_
      simp (disch:=(first | assumption | omega | (simp only [List.length_set]; omega))) only [Ac,Br,A0,Cb,amL,amT,sA,sF,↓reduceIte,reduceCtorEq]
      refine hK12 _ ?_
      refine Aj ?_
      try simp (disch:=(first | assumption | omega | (simp only [List.length_set]; omega))) only [amL]
      all_goals ((first | (have e:=T7 (by omega) (by assumption) hr) | (have e:=Y6 (by omega) hr)) ; rw [e] ; refine A6 (res:=.tup [avW v,bl _]) os ?_ (by first | ((repeat' first | exact Sub.refl _ | refine Sub.skip (by first | exact hfr0 _ | (simp (disch:=omega) only [Ac]; exact hfr0 _)) ?_ | refine Sub.both ?_); done) | fail) hcl (A9 _ (D7 _ _)) ⟨rfl,rfl⟩ ; refine (Jh (n:=bd+6) (off:=0) (g:=true) (cs:=cW v) (x:=avW v) (by simp (disch:=(first | assumption | omega | (simp only [List.length_set]; omega))) only [amL,sF,↓reduceIte,reduceCtorEq]) (by simp only [amT]; rfl) (by simp (disch:=(first | assumption | omega | (simp only [List.length_set]; omega))) only [amL]; try rfl) (by simp only [amT,List.drop_zero]; exact Aat hv4)).trans ?_ ; simp (disch:=(first | assumption | omega | (simp only [List.length_set]; omega))) only [amL,↓reduceIte] ; all_goals first | rfl | (omega))
    |refine ME.mk ?_
     first
     |exact Bool.noConfusion h
     |skip
      try simp only [nrm] at h
      refine Am ?_
      refine hK10 _ ?_
   all_goals
    skip
    refine Cj (by kernel_rfl) (by kernel_rfl) ?_
    simp (disch:=(first | assumption | omega | (simp only [List.length_set]; omega))) only [Ac,Azw,Bbe,List.set_set,Kh,A0,amL,amT,sA,sB,sE,sF,sH,↓reduceIte,reduceCtorEq]
    refine hK8 _ ?_
    refine Ah ?_
    simp (disch:=(first | assumption | omega | (simp only [List.length_set]; omega))) only [amL,amT,sA,sF,↓reduceIte,reduceCtorEq]
    refine hK4 (k+1,v.set k ⟨gs.getD k 0,gs.getD k 0 * ds.getD k 0⟩) _ ?_ ?_ (G9 ?_ ?_ ?_ ?_)
    all_goals (try simp (disch:=(first | assumption | omega | (simp only [List.length_set]; omega))) only [ow,Ac,amL,sF,↓reduceIte,reduceCtorEq])
    all_goals first | omega | exact ⟨by omega,by simp [hv4],Af8 (by omega) (by omega) hr⟩ | exact (by first | ((repeat' first | exact Sub.refl _ | refine Sub.skip (by first | exact hfr0 _ | (simp (disch:=omega) only [Ac]; exact hfr0 _)) ?_ | refine Sub.both ?_); done) | fail) | exact Ee hcl | trace_state
theorem Bbu {b:Eg} {s:Stp} {n:Int} {v:List Liq} (hs:F4 b.vs.length s=true) (hb:b.vs.length≤4) (hn:0≤n∧n≤60) (hv:OkV v):(kD s n v).all inR=true:=by
  obtain ⟨h1,h2,h3,_,h5⟩:=Fp hs
  have h6:=Da h5
  refine Bbw ⟨?_,?_,?_,?_,?_⟩ ?_ hv.small <;> (simp only [inR,Bool.and_eq_true,decide_eq_true_eq]; omega)
theorem Ahb {os:Nat→Option AO} {n1 n2 n3:Nat} {t:Tru} {v w:List Liq} (hcl:(Hp os).closed):(Hp (upd (upd (upd os n1 (some (.cells (cT t)))) n2 (some (.cells (cW v)))) n3 (some (.cells (cW w))))).closed:=
  Ee (Ee (F3 hcl fun x hx=>by simp at hx; rcases hx with rfl | rfl | rfl <;> rfl))
theorem Ek {b:Eg} {t:Tru} {nw m:Nat} {os:Nat→Option AO} {bd:Nat} (hW:Wk b.vs b.ss nw m os) (hv:N3 b) (ht:F7 b t=true) :
    Bh Tryz.prog bd (.fn (.func 61) [] []) [.ptr nw 0,avT t] os fun res os'=>res=.tup [avW (Md b t).1,bl (Md b t).2]∧os'=os:=by
  refine B3 (v:=[101,88]) (q:=[]) (N:=48) (rs:=[.cell 4 120,.tmp 5]) Tryz.func61 rfl (by kernel_rfl) rfl rfl (fun hcl hfree=>?_)
  have hfr0:∀ k,os (bd+k)=none:=fun k=>hfree _ (by omega)
  have hlw:=Ap hfree hW.ow
  have hlm:=Ap hfree hW.om
  have ow:=hW.ow
  have om:=hW.om
  obtain ⟨s1,s2,s3⟩:=Lc hv ht
  obtain ⟨p1,p2,p3,p4,p5⟩:=Dk ht
  have hb0:=Xm hv ht
  have hnv:=hv.nv
  have hns:=hv.ns
  have bl4:=hb0.len
  refine Ad fun K1 hK1=>?_
  simp (disch:=(first | assumption | omega | (simp only [List.length_set]; omega))) only [hfr0,Ac,amL,amT,sA,sB,↓reduceIte,reduceCtorEq]
  refine hK1 _ ?_
  refine Ad fun K2 hK2=>?_
  simp (disch:=(first | assumption | omega | (simp only [List.length_set]; omega))) only [Ac,amL,amT,sA,sF,sG,↓reduceIte,reduceCtorEq]
  repeat' first | (refine Cc (bd:=bd+48) (by decide) (Ahn (ss:=b.ss) (m:=m) ⟨by simp (disch:=omega) only [Ac]; exact ow,by simp (disch:=omega) only [Ac]; exact om⟩ hnv p1 p2 (fun k=>by have:=s1 k; omega) (fun k=>by have:=s2 k; omega)) (fun q hq=>by simp (disch:=omega) only [Ac]; exact hfree q (by omega)) (Nat.le_add_right _ _) (D7 _ _) ?_ ; simp (disch:=(first | assumption | omega | (simp only [List.length_set]; omega))) only [hfr0,Ac,Bz,Aio,A0,amL,amT,sA,sB,sF,↓reduceIte])
  refine hK2 _ ?_
  refine Ab fun K3 hK3=>?_
  refine Ad fun K4 hK4=>?_
  simp (disch:=(first | assumption | omega | (simp only [List.length_set]; omega))) only [ow,Ac,amL,amT,sA,↓reduceIte,reduceCtorEq]
  refine hK4 _ ?_
  refine Au ?_
  skip
  refine Bg (α:=Nat × (List Liq × Bool)) (fun x=>⟨T [(0,.ptr nw 0),(3,.ptr (bd+3) 0),(4,.ptr (bd+4) 0),(6,.ptr (bd+6) 0),(7,bl x.2.2),(23,.p (slS b.ss)),(24,i64 b.ss.length),(25,i64 (x.1:Int))],upd (upd (upd os (bd+3) (some (.cells (cT t)))) (bd+4) (some (.cells (cW v0)))) (bd+6) (some (.cells (cW x.2.1)))⟩) (fun x=>b.ss.length - x.1) (fun x=>x.1≤b.ss.length∧x.2.1.length=4∧(x.2.2=true→OkV x.2.1)∧Kx b.vs t.m (b.ss.drop x.1) x.1 x.2=Md b t) (0,M7 b.vs t.g t.d) ?_ ?_ (fun x hx5 K5 hK5=>?_)
  · exact ⟨by simp,bl4,fun _=>hb0,rfl⟩
  · refine G9 ?_ ?_ ?_ ?_ <;> (try simp (disch:=(first | assumption | omega | (simp only [List.length_set]; omega))) only [ow,Ac,amL,sF,↓reduceIte,reduceCtorEq]); all_goals first | rfl | exact (by first | ((repeat' first | exact Sub.refl _ | refine Sub.skip (by first | exact hfr0 _ | (simp (disch:=omega) only [Ac]; exact hfr0 _)) ?_ | refine Sub.both ?_); done) | fail) | exact Ahb hcl | (omega)
  obtain ⟨k,v,is⟩:=x; dsimp only at hx5 ⊢; obtain ⟨hk,hr4,ho,hr⟩:=hx5
  refine Ad fun K6 hK6=>?_
  simp (disch:=(first | assumption | omega | (simp only [List.length_set]; omega))) only [amL,amT,sA,sF,↓reduceIte,reduceCtorEq]
  refine hK6 _ ?_
  refine Ab fun K7 hK7=>?_
  refine Al rfl (fun h=>MT.x ?_) (fun h=>ME.x ?_)
  all_goals
   first
   |refine MT.mk ?_
    first
    |exact Bool.noConfusion h
    |skip
     try simp only [nrm] at h
     refine Am ?_
     refine hK7 _ ?_
   |refine ME.mk ?_
    first
    |exact Bool.noConfusion h
    |skip
     try simp only [nrm] at h
     refine Bq ?_
     refine hK3 _ ?_
     refine Ad fun K8 hK8=>?_
     simp (disch:=(first | assumption | omega | (simp only [List.length_set]; omega))) only [Ac,Br,A0,Cb,amL,amT,sA,sB,sC,sF,↓reduceIte,reduceCtorEq]
     refine hK8 _ ?_
     refine Aj ?_
     try simp (disch:=(first | assumption | omega | (simp only [List.length_set]; omega))) only [amL]
     all_goals ((first | (have e:=Un (by omega) (by assumption) hr) | (have e:=Y9 (by omega) hr)) ; rw [e] ; refine A6 (res:=.tup [avW v,bl _]) os ?_ (by first | ((repeat' first | exact Sub.refl _ | refine Sub.skip (by first | exact hfr0 _ | (simp (disch:=omega) only [Ac]; exact hfr0 _)) ?_ | refine Sub.both ?_); done) | fail) hcl (A9 _ (D7 _ _)) ⟨rfl,rfl⟩ ; refine (Jh (n:=bd+4) (off:=0) (g:=true) (cs:=cW v) (x:=avW v) (by simp (disch:=(first | assumption | omega | (simp only [List.length_set]; omega))) only [amL,sF,↓reduceIte,reduceCtorEq]) (by simp only [amT]; rfl) (by simp (disch:=(first | assumption | omega | (simp only [List.length_set]; omega))) only [amL]; try rfl) (by simp only [amT,List.drop_zero]; exact Aat hr4)).trans ?_ ; simp (disch:=(first | assumption | omega | (simp only [List.length_set]; omega))) only [amL,↓reduceIte] ; all_goals first | rfl | (omega))
  all_goals
   skip
   refine Ab fun K9 hK9=>?_
   refine Au ?_
   refine Ad fun K10 hK10=>?_
   simp (disch:=(first | assumption | omega | (simp only [List.length_set]; omega))) only [hfr0,Ac,Bz,Yh,amL,amT,sA,sB,sF,↓reduceIte,reduceCtorEq]
   refine hK10 _ ?_
   refine Ab fun K11 hK11=>?_
   refine Ad fun K12 hK12=>?_
   simp (disch:=(first | assumption | omega | (simp only [List.length_set]; omega))) only [amL,sA,sF,↓reduceIte,reduceCtorEq]
   refine hK12 _ ?_
   refine Al rfl (fun h=>MT.x ?_) (fun h=>ME.x ?_)
   all_goals
    first
    |refine MT.mk ?_
     first
     |exact Bool.noConfusion h
     |skip
      try simp only [nrm] at h
      refine Ad fun K13 hK13=>?_
      simp (disch:=(first | assumption | omega | (simp only [List.length_set]; omega))) only [Ac,Br,A0,Cb,amL,amT,sA,sB,sC,sF,↓reduceIte,reduceCtorEq]
      refine hK13 _ ?_
      refine Aj ?_
      try simp (disch:=(first | assumption | omega | (simp only [List.length_set]; omega))) only [amL]
      all_goals ((first | (have e:=Un (by omega) (by assumption) hr) | (have e:=Y9 (by omega) hr)) ; rw [e] ; refine A6 (res:=.tup [avW v,bl _]) os ?_ (by first | ((repeat' first | exact Sub.refl _ | refine Sub.skip (by first | exact hfr0 _ | (simp (disch:=omega) only [Ac]; exact hfr0 _)) ?_ | refine Sub.both ?_); done) | fail) hcl (A9 _ (D7 _ _)) ⟨rfl,rfl⟩ ; refine (Jh (n:=bd+4) (off:=0) (g:=true) (cs:=cW v) (x:=avW v) (by simp (disch:=(first | assumption | omega | (simp only [List.length_set]; omega))) only [amL,sF,↓reduceIte,reduceCtorEq]) (by simp only [amT]; rfl) (by simp (disch:=(first | assumption | omega | (simp only [List.length_set]; omega))) only [amL]; try rfl) (by simp only [amT,List.drop_zero]; exact Aat hr4)).trans ?_ ; simp (disch:=(first | assumption | omega | (simp only [List.length_set]; omega))) only [amL,↓reduceIte] ; all_goals first | rfl | (omega))
    |refine ME.mk ?_
     first
     |exact Bool.noConfusion h
     |skip
      try simp only [nrm] at h
      refine Am ?_
      refine hK11 _ ?_
   all_goals
    skip
    refine Vj (by kernel_rfl) (by kernel_rfl) ?_
    have his:is=true:=by assumption
    have hov:=ho his
    have hst:=hv.stp (k:=k) (by omega)
    obtain ⟨q1,q2,q3,_⟩:=Fp hst
    have hmk:=s3 k
    have hd4:(doS b.vs v (b.ss.getD k default) (t.m.getD k 0)).1.length=4:=by rw [Aaw]; exact hr4
    simp (disch:=(first | assumption | omega | (simp only [List.length_set]; omega))) only [Ac,Bm,Br,A0,amL,amT,sA,sB,sF,sG,↓reduceIte,reduceCtorEq]
    repeat' first | (refine Cc (bd:=bd+48) (by decide) (Bd2 (ss:=b.ss) (m:=m) (s:=b.ss.getD k default) ⟨by simp (disch:=omega) only [Ac]; exact ow,by simp (disch:=omega) only [Ac]; exact om⟩ hr4 hov.small hnv q1 ⟨q2.1,by omega⟩ ⟨q3.1,by omega⟩ ⟨hmk.1,by omega⟩ (Bbu hst hnv hmk hov)) (fun q hq=>by simp (disch:=omega) only [Ac]; exact hfree q (by omega)) (Nat.le_add_right _ _) (D7 _ _) ?_ ; simp (disch:=(first | assumption | omega | (simp only [List.length_set]; omega))) only [Ac,A0,Cb,amL,amT,sA,sF,↓reduceIte,reduceCtorEq])
    refine hK9 _ ?_
    refine Ah ?_
    simp (disch:=(first | assumption | omega | (simp only [List.length_set]; omega))) only [amL,amT,sA,sF,↓reduceIte,reduceCtorEq]
    refine hK5 (k+1,doS b.vs v (b.ss.getD k default) (t.m.getD k 0)) _ ?_ ?_ (G9 ?_ ?_ ?_ ?_)
    all_goals (try simp (disch:=(first | assumption | omega | (simp only [List.length_set]; omega))) only [ow,Ac,amL,sF,↓reduceIte,reduceCtorEq])
    all_goals first | omega | exact ⟨by omega,by rw [Aaw]; exact hr4,fun hd=>Apd hov hnv hv.v hst hmk.1 hd,Aex (by omega) his hr⟩ | exact (by first | ((repeat' first | exact Sub.refl _ | refine Sub.skip (by first | exact hfr0 _ | (simp (disch:=omega) only [Ac]; exact hfr0 _)) ?_ | refine Sub.both ?_); done) | fail) | exact Ahb hcl | (omega)
theorem Ayn (n:Nat) (hn:n≤1000000):H7 Tryz.prog 100 [C4,i64 (n:Int)] 1 []:=by
  refine K0 (v:=[]) (q:=[]) (N:=27) (i:=4) Tryz.func100 rfl rfl rfl rfl ?_
  refine Ad fun K1 hK1=>?_
  simp (disch:=omega) only [amL,sA,sB]
  refine hK1 _ ?_
  refine Ab fun K2 hK2=>?_
  refine Ad fun K3 hK3=>?_
  simp (disch:=omega) only [amL,amT,sA,sF,↓reduceIte,reduceCtorEq]
  refine hK3 _ ?_
  refine Al rfl (fun h=>MT.x ?_) (fun h=>ME.x ?_)
  all_goals
   first
   |refine MT.mk ?_
    first
    |exact Bool.noConfusion h
    |skip
     try simp only [nrm] at h
     exfalso; omega
   |refine ME.mk ?_
    first
    |exact Bool.noConfusion h
    |skip
     try simp only [nrm] at h
     refine Am ?_
     refine hK2 _ ?_
  all_goals
   skip
   refine Ab fun K4 hK4=>?_
   refine Ab fun K5 hK5=>?_
   refine C2 ?_
   refine Jv ?_
   simp (disch:=omega) only [amL,sA,sF,↓reduceIte,reduceCtorEq]
   refine Jv ?_
   simp (disch:=omega) only [amL,sA,↓reduceIte,reduceCtorEq]
   refine AL.step (Qz (t:=26) (e:=3) rfl (fun k hk=>by cases hk; decide) (by simp only [amT]) rfl ?_)
   refine Dd ?_
   simp (disch:=omega) only [Int.sub_zero,Int.sub_self,amL,amT,sA,sF,↓reduceIte,reduceCtorEq]
   refine hK5 _ ?_
   refine Ad fun K6 hK6=>?_
   simp (disch:=omega) only [amL,amT,sA,↓reduceIte]
   refine hK6 _ ?_
   refine Al rfl (fun h=>MT.x ?_) (fun h=>ME.x ?_)
   all_goals
    first
    |refine MT.mk ?_
     first
     |exact Bool.noConfusion h
     |skip
      try simp only [nrm] at h
      refine C2 ?_
      refine Jv ?_
      simp (disch:=omega) only [amL,sA,↓reduceIte,reduceCtorEq]
      refine Jv ?_
      simp (disch:=omega) only [amL,sA,↓reduceIte,reduceCtorEq]
      refine AL.step (Qz (t:=26) (e:=3) rfl (fun k hk=>by cases hk; decide) (by simp only [amT]) rfl ?_)
      refine AL.step (Wf (t:=26) (e:=3) rfl (fun k hk=>by cases hk; decide) (by simp only [amT]) (by simp only [amT]; rfl) rfl rfl ?_)
      refine Jv ?_
      simp (disch:=omega) only [amL,sA,sF,↓reduceIte]
      refine AL.step (Wp (t:=26) (t':=3) (e:=3) (k:=.i64) (n:=n) (dk:=22) rfl rfl (by decide) rfl (by simp only [amT]) (by simp only [amT]) (by simp only [amT]; rfl) (by simp only [amT]; rfl) (by simp only [amT]; decide) (by simp only [amT]; rfl) rfl rfl (by omega) hn (by simp only [amT]; omega) ?_)
      refine Jv ?_
      simp (disch:=omega) only [amL,amT,sA,↓reduceIte,reduceCtorEq]
      refine Jv ?_
      simp (disch:=omega) only [amL,amT,sA,↓reduceIte]
      refine AL.step (Td (t:=26) (e:=3) (n:=22) (len:=n) (dk:=25) rfl rfl (by decide) (by simp only [amT]) (by simp only [amT]; rfl) rfl (by omega) rfl rfl rfl ?_)
      refine Dd ?_
      simp (disch:=omega) only [amL,sA,↓reduceIte]
      refine hK4 _ ?_
    |refine ME.mk ?_
     first
     |exact Bool.noConfusion h
     |skip
      try simp only [nrm] at h
      refine Am ?_
      refine hK4 _ ?_
   all_goals
    skip
    refine Ad fun K7 hK7=>?_
    simp (disch:=omega) only [amL,sA,↓reduceIte,reduceCtorEq]
    refine hK7 _ ?_
    refine Aj ?_
    try simp (disch:=omega) only [D6,amL,↓reduceIte]
    all_goals rfl
abbrev Ahy (t:List Int):List PV:=[.sl (t.map J3)]
theorem Xy {l:List (List Int)} {k:Nat} (h:k < l.length):(l.map Ahy).getD k []=Ahy (l.getD k []):=Cp _ _ _ h
theorem Xj {l:List (List Int)} {k:Nat} (h:k < l.length):(l.take (k+1)).flatten=(l.take k).flatten++l.getD k []:=by
  have e:l.take (k+1)=l.take k++[l.getD k []]:=by
    rw [List.take_add_one,List.getElem?_eq_getElem h]; simp [List.getD,h]
  rw [e,List.flatten_append]; simp
theorem Tp {l:List (List Int)} (k:Nat):(l.take k).flatten.length≤l.flatten.length:=by
  have:l.flatten=(l.take k).flatten++(l.drop k).flatten:=by rw [← List.flatten_append,List.take_append_drop]
  rw [this,List.length_append]; omega
theorem Apb (l:List Int):((l.map J3).all fun c=>decide (c.length=1))=true:=by
  rw [List.all_eq_true]; intro c hc; obtain ⟨z,-,rfl⟩:=List.mem_map.1 hc; rfl
theorem J4 {os:Nat→Option AO} {n len k:Nat} {es:List (List PV)} (h:os n=some (.arr k es)) (h1:len=es.length) (h2:(es.all fun e=>e.all PV.isVal)=true):Sh k os (.own n len)=some es:=by
  unfold Sh; simp only [h]; rw [if_pos ⟨trivial,h1,h2⟩]
theorem Afn (l:List Int):((l.map J3).all fun e=>e.all PV.isVal)=true:=by
  rw [List.all_eq_true]; intro c hc; obtain ⟨z,-,rfl⟩:=List.mem_map.1 hc; rfl
theorem Anv (ls:List (List Int)) (hl:ls.length < 1000000) (hf:ls.flatten.length≤1000000):H7 Tryz.prog 57 [.p (.sl (ls.map Ahy))] 1 (ls.flatten.map J3):=by
  refine K0 (v:=[]) (q:=[]) (N:=36) (i:=2) Tryz.func57 rfl rfl rfl rfl ?_
  refine Ad fun K1 hK1=>?_
  simp (disch:=omega) only [amL,sA]
  refine hK1 _ ?_
  refine Ad fun K2 hK2=>?_
  simp (disch:=omega) only [amL,sA]
  refine hK2 _ ?_
  refine Ab fun K3 hK3=>?_
  refine Ad fun K4 hK4=>?_
  simp (disch:=omega) only [amL,amT,sA,↓reduceIte,reduceCtorEq]
  refine hK4 _ ?_
  refine Au ?_
  skip
  refine Bg (α:=Nat) (fun k=>⟨T [(0,.p (.sl (ls.map Ahy))),(3,i64 ((ls.take k).flatten.length:Int)),(9,.p (.sl (ls.map Ahy))),(10,i64 ls.length),(11,i64 (k:Int))],O []⟩) (fun k=>ls.length - k) (fun k=>k≤ls.length) 0 ?_ ?_ (fun k hx5 K5 hK5=>?_)
  · simp
  · refine Dg ?_ ?_ ?_ ?_ <;> (try simp (disch:=omega) only [amL,sF,↓reduceIte,reduceCtorEq]); all_goals rfl
  have hk:=hx5; have hk2:=Tp (l:=ls) k; have hk3:=Tp (l:=ls) (k+1)
  refine Ad fun K6 hK6=>?_
  simp (disch:=omega) only [amL,amT,sA,sF,↓reduceIte,reduceCtorEq]
  refine hK6 _ ?_
  refine Ab fun K7 hK7=>?_
  refine Al rfl (fun h=>MT.x ?_) (fun h=>ME.x ?_)
  all_goals
   first
   |refine MT.mk ?_
    first
    |exact Bool.noConfusion h
    |skip
     try simp only [nrm] at h
     refine Am ?_
     refine hK7 _ ?_
   |refine ME.mk ?_
    first
    |exact Bool.noConfusion h
    |skip
     try simp only [nrm] at h
     refine Bq ?_
     refine hK3 _ ?_
     refine Ad fun K8 hK8=>?_
     have htk:ls.take k=ls:=List.take_of_length_le (by omega)
     simp (disch:=omega) only [htk,amL,sA,sF,↓reduceIte,reduceCtorEq]
     repeat' first | (refine Ux (by kernel_rfl) (by decide) (Ayn ls.flatten.length hf) (by simp (disch:=omega) only [amL]) ?_ ; simp (disch:=omega) only [amL,sA,↓reduceIte])
     refine hK8 _ ?_
     refine Ab fun K9 hK9=>?_
     refine Ad fun K10 hK10=>?_
     simp (disch:=omega) only [amL,amT,sA,↓reduceIte,reduceCtorEq]
     refine hK10 _ ?_
     refine Au ?_
     refine Vw 24 33 rfl (by decide) (by decide) ?_
     refine Bg (α:=Nat) (fun k=>⟨T [(6,.own 33 (ls.take k).flatten.length),(25,.p (.sl (ls.map Ahy))),(26,i64 ls.length),(27,i64 (k:Int))],O [(33,.arr 1 ((ls.take k).flatten.map J3))]⟩) (fun k=>ls.length - k) (fun k=>k≤ls.length) 0 ?_ ?_ (fun k hx11 K11 hK11=>?_)
     · simp
     · refine Dg ?_ ?_ ?_ ?_ <;> (try simp (disch:=omega) only [W7,Aag,AV.ren,AO.ren,rn,amL,sF,↓reduceIte]); all_goals first | rfl | trace_state
     have hk:=hx11; have hk2:=Tp (l:=ls) k; have hk3:=Tp (l:=ls) (k+1)
     refine Ad fun K12 hK12=>?_
     simp (disch:=omega) only [amL,amT,sA,sF,↓reduceIte]
     refine hK12 _ ?_
     refine Ab fun K13 hK13=>?_
     refine Al rfl (fun h=>MT.x ?_) (fun h=>ME.x ?_)
     all_goals
      first
      |refine MT.mk ?_
       first
       |exact Bool.noConfusion h
       |skip
        try simp only [nrm] at h
        refine Am ?_
        refine hK13 _ ?_
      |refine ME.mk ?_
       first
       |exact Bool.noConfusion h
       |skip
        try simp only [nrm] at h
        refine Bq ?_
        refine hK9 _ ?_
        refine Ad fun K14 hK14=>?_
        simp (disch:=omega) only [amL,sA,sF,↓reduceIte]
        refine hK14 _ ?_
        refine Aj ?_
        try simp (disch:=omega) only [D6,amL,↓reduceIte]
        rw [List.take_of_length_le (show ls.length≤k by omega)] ; exact J4 rfl (List.length_map _).symm (Afn _)
     all_goals
      skip
      refine Ab fun K15 hK15=>?_
      refine Au ?_
      refine Ad fun K16 hK16=>?_
      simp (disch:=omega) only [Xy,amL,amT,sA,sF,↓reduceIte]
      refine hK16 _ ?_
      refine Ah ?_
      have hk5:=Xj (l:=ls) (k:=k) (by omega)
      have hk4:=congrArg List.length hk5
      rw [List.length_append] at hk4
      simp (disch:=omega) only [Apb,amL,amT,sA,sF,↓reduceIte]
      refine hK15 _ ?_
      refine Ah ?_
      simp (disch:=omega) only [amL,amT,sA,sF,↓reduceIte]
      refine hK11 (k+1) _ ?_ ?_ (Dg ?_ ?_ ?_ ?_)
      all_goals (try simp (disch:=omega) only [amL,sF,↓reduceIte])
      all_goals first | omega | (rw [hk4]; done) | (rw [hk5,List.map_append]; done) | (rw [hk5,List.map_append]; rfl) | trace_state
  all_goals
   skip
   refine Ab fun K17 hK17=>?_
   refine Au ?_
   refine Ad fun K18 hK18=>?_
   simp (disch:=omega) only [Xy,amL,amT,sA,sF,↓reduceIte,reduceCtorEq]
   refine hK18 _ ?_
   refine Ad fun K19 hK19=>?_
   have hk4:=congrArg List.length (Xj (l:=ls) (k:=k) (by omega))
   rw [List.length_append] at hk4
   simp (disch:=omega) only [amL,amT,sA,sF,↓reduceIte,reduceCtorEq]
   refine hK19 _ ?_
   refine Ad fun K20 hK20=>?_
   simp (disch:=omega) only [amL,amT,sA,↓reduceIte]
   refine hK20 _ ?_
   refine Al rfl (fun h=>MT.x ?_) (fun h=>ME.x ?_)
   all_goals
    first
    |refine MT.mk ?_
     first
     |exact Bool.noConfusion h
     |skip
      try simp only [nrm] at h
      exfalso; omega
    |refine ME.mk ?_
     first
     |exact Bool.noConfusion h
     |skip
      try simp only [nrm] at h
      refine Am ?_
      refine hK17 _ ?_
   all_goals
    skip
    refine Ah ?_
    simp (disch:=omega) only [amL,amT,sA,sF,↓reduceIte,reduceCtorEq]
    refine hK5 (k+1) _ ?_ ?_ (Dg ?_ ?_ ?_ ?_)
    all_goals (try simp (disch:=omega) only [amL,sF,↓reduceIte,reduceCtorEq])
    all_goals first | omega | exact congrArg i64 (by omega) | trace_state
theorem Abp {α β:Type} {l:List α} {f:α→β} {k:Nat} (d:α) (h:k < l.length):(l.take (k+1)).map f=(l.take k).map f++[f (l.getD k d)]:=by
  rw [List.take_add_one,List.getElem?_eq_getElem h,List.map_append]
  simp [List.getD,h]
theorem Aop {α:Type} {l:List α} {p:List Rng} {f:α→Rng} {k:Nat} (d:α) (h:k < l.length):(p++(l.take k).map f).map Hy++[Hy (f (l.getD k d))]=(p++(l.take (k+1)).map f).map Hy:=by
  rw [Abp d h]; simp
theorem Aw2 {α β:Type} {l:List α} {p:List β} {f:α→β} {k:Nat} (h:k < l.length):(p++(l.take k).map f).length+1=(p++(l.take (k+1)).map f).length:=by simp; omega
theorem Wg {α:Type} {l:List α} {k:Nat} (h1:k≤l.length) (h2:¬ (k:Int) < l.length):l.take k=l:=List.take_of_length_le (by omega)
theorem Abo (b:Eg) (hl:b.vs.length < 1000000) (hl2:b.ss.length < 1000000):Bu Tryz.prog 58 [avB b] (.p (.sl ((Fy b).map Hy))):=by
  refine Bo (v:=[]) (q:=[]) (N:=49) (rs:=[.tmp 2]) Tryz.func58 rfl rfl rfl rfl rfl ?_
  obtain ⟨p1,hp1⟩:∃ p,p=([]:List Rng):=⟨_,rfl⟩
  obtain ⟨p2,hp2⟩:∃ p,p=b.vs.map (·.g):=⟨_,rfl⟩
  obtain ⟨p3,hp3⟩:∃ p,p=b.vs.map (·.g)++b.vs.map (·.d):=⟨_,rfl⟩
  refine Ad fun K1 hK1=>?_
  simp (disch:=omega) only [amL,sA,↓reduceIte]
  refine hK1 _ ?_
  refine Ab fun K2 hK2=>?_
  refine Ad fun K3 hK3=>?_
  simp (disch:=omega) only [amL,amT,sA,sF,↓reduceIte,reduceCtorEq]
  refine hK3 _ ?_
  refine Au ?_
  refine Px 20 2 2 (by decide) rfl rfl ?_
  refine Bg (α:=Nat) (fun k=>⟨T [(1,.ptr 1 0),(2,.own 20 (p1++(b.vs.take k).map (·.g)).length),(10,.p (slV b.vs)),(11,i64 b.vs.length),(12,i64 (k:Int))],O [(1,.cells (cB b)),(20,.arr 2 ((p1++(b.vs.take k).map (·.g)).map Hy))]⟩) (fun k=>b.vs.length - k) (fun k=>k≤b.vs.length) 0 ?_ ?_ (fun k hx4 K4 hK4=>?_)
  · simp
  · refine Dg ?_ ?_ ?_ ?_ <;> (try simp (disch:=omega) only [amL,sF,sG,↓reduceIte]); all_goals subst hp1; rfl
  have hk:=hx4; have hk2:(p1++(b.vs.take k).map (·.g)).length≤2000000:=(by subst hp1; simp; omega)
  refine Ad fun K5 hK5=>?_
  simp (disch:=omega) only [amL,amT,sA,sF,↓reduceIte]
  refine hK5 _ ?_
  refine Ab fun K6 hK6=>?_
  refine Al rfl (fun h=>MT.x ?_) (fun h=>ME.x ?_)
  all_goals
   first
   |refine MT.mk ?_
    first
    |exact Bool.noConfusion h
    |skip
     try simp only [nrm] at h
     refine Am ?_
     refine hK6 _ ?_
   |refine ME.mk ?_
    first
    |exact Bool.noConfusion h
    |skip
     try simp only [nrm] at h
     refine Bq ?_
     refine hK2 _ ?_
     refine Ab fun K7 hK7=>?_
     refine Ad fun K8 hK8=>?_
     simp (disch:=omega) only [amL,amT,sA,sF,↓reduceIte,reduceCtorEq]
     refine hK8 _ ?_
     refine Au ?_
     refine Vw 20 33 rfl (by decide) (by decide) ?_
     refine Bg (α:=Nat) (fun k=>⟨T [(1,.ptr 1 0),(2,.own 33 (p2++(b.vs.take k).map (·.d)).length),(23,.p (slV b.vs)),(24,i64 b.vs.length),(25,i64 (k:Int))],O [(1,.cells (cB b)),(33,.arr 2 ((p2++(b.vs.take k).map (·.d)).map Hy))]⟩) (fun k=>b.vs.length - k) (fun k=>k≤b.vs.length) 0 ?_ ?_ (fun k hx9 K9 hK9=>?_)
     · simp
     · refine Dg ?_ ?_ ?_ ?_ <;> (try simp (disch:=omega) only [W7,Aag,AV.ren,AO.ren,rn,amL,sF,sG,↓reduceIte]); all_goals first | rfl | (rw [Wg (by assumption) (by assumption)]; subst hp1 hp2; simp)
     have hk:=hx9; have hk2:(p2++(b.vs.take k).map (·.d)).length≤3000000:=(by subst hp2; simp; omega)
     refine Ad fun K10 hK10=>?_
     simp (disch:=omega) only [amL,amT,sA,sF,↓reduceIte]
     refine hK10 _ ?_
     refine Ab fun K11 hK11=>?_
     refine Al rfl (fun h=>MT.x ?_) (fun h=>ME.x ?_)
     all_goals
      first
      |refine MT.mk ?_
       first
       |exact Bool.noConfusion h
       |skip
        try simp only [nrm] at h
        refine Am ?_
        refine hK11 _ ?_
      |refine ME.mk ?_
       first
       |exact Bool.noConfusion h
       |skip
        try simp only [nrm] at h
        refine Bq ?_
        refine hK7 _ ?_
        refine Ab fun K12 hK12=>?_
        refine Ad fun K13 hK13=>?_
        simp (disch:=omega) only [amL,amT,sA,sF,↓reduceIte,reduceCtorEq]
        refine hK13 _ ?_
        refine Au ?_
        refine Vw 33 46 rfl (by decide) (by decide) ?_
        refine Bg (α:=Nat) (fun k=>⟨T [(1,.ptr 1 0),(2,.own 46 (p3++(b.ss.take k).map (·.g)).length),(36,.p (slS b.ss)),(37,i64 b.ss.length),(38,i64 (k:Int))],O [(1,.cells (cB b)),(46,.arr 2 ((p3++(b.ss.take k).map (·.g)).map Hy))]⟩) (fun k=>b.ss.length - k) (fun k=>k≤b.ss.length) 0 ?_ ?_ (fun k hx14 K14 hK14=>?_)
        · simp
        · refine Dg ?_ ?_ ?_ ?_ <;> (try simp (disch:=omega) only [W7,Aag,AV.ren,AO.ren,rn,amL,sF,sG,↓reduceIte]); all_goals first | rfl | (rw [Wg (by assumption) (by assumption)]; subst hp2 hp3; simp)
        have hk:=hx14; have hk2:(p3++(b.ss.take k).map (·.g)).length≤4000000:=(by subst hp3; simp; omega)
        refine Ad fun K15 hK15=>?_
        simp (disch:=omega) only [amL,amT,sA,sF,↓reduceIte]
        refine hK15 _ ?_
        refine Ab fun K16 hK16=>?_
        refine Al rfl (fun h=>MT.x ?_) (fun h=>ME.x ?_)
        all_goals
         first
         |refine MT.mk ?_
          first
          |exact Bool.noConfusion h
          |skip
           try simp only [nrm] at h
           refine Am ?_
           refine hK16 _ ?_
         |refine ME.mk ?_
          first
          |exact Bool.noConfusion h
          |skip
           try simp only [nrm] at h
           refine Bq ?_
           refine hK12 _ ?_
           refine Ad fun K17 hK17=>?_
           simp (disch:=omega) only [amL,sA,sF,↓reduceIte]
           refine hK17 _ ?_
           refine Aj ?_
           try simp (disch:=omega) only [amL,sF,↓reduceIte]
           rw [List.take_of_length_le (by simp),Wg hk h,hp3]; rfl
        all_goals
         skip
         refine Ab fun K18 hK18=>?_
         refine Au ?_
         refine Ad fun K19 hK19=>?_
         simp (disch:=omega) only [Yh,amL,amT,sA,sB,sF,↓reduceIte]
         refine hK19 _ ?_
         refine Ah ?_
         simp (disch:=omega) only [amL,amT,sA,sB,sC,sE,sF,↓reduceIte,reduceCtorEq]
         refine hK18 _ ?_
         refine Ah ?_
         simp (disch:=omega) only [amL,amT,sA,sF,↓reduceIte]
         refine hK14 (k+1) _ ?_ ?_ (Dg ?_ ?_ ?_ ?_)
         all_goals (try simp (disch:=omega) only [amL,sF,sG,↓reduceIte])
         all_goals first | omega | exact congrArg (AV.own _) (Aw2 (by omega)) | exact congrArg (AO.arr 2) (Aop default (by omega)) | trace_state
     all_goals
      skip
      refine Ab fun K20 hK20=>?_
      refine Au ?_
      refine Ad fun K21 hK21=>?_
      simp (disch:=omega) only [Dj,amL,amT,sA,sB,sF,↓reduceIte]
      refine hK21 _ ?_
      refine Ah ?_
      simp (disch:=omega) only [amL,amT,sA,sB,sC,sE,sF,↓reduceIte,reduceCtorEq]
      refine hK20 _ ?_
      refine Ah ?_
      simp (disch:=omega) only [amL,amT,sA,sF,↓reduceIte]
      refine hK9 (k+1) _ ?_ ?_ (Dg ?_ ?_ ?_ ?_)
      all_goals (try simp (disch:=omega) only [amL,sF,sG,↓reduceIte])
      all_goals first | omega | exact congrArg (AV.own _) (Aw2 (by omega)) | exact congrArg (AO.arr 2) (Aop default (by omega)) | trace_state
  all_goals
   skip
   refine Ab fun K22 hK22=>?_
   refine Au ?_
   refine Ad fun K23 hK23=>?_
   simp (disch:=omega) only [Dj,amL,amT,sA,sB,sF,↓reduceIte]
   refine hK23 _ ?_
   refine Ah ?_
   simp (disch:=omega) only [amL,amT,sA,sB,sC,sE,sF,↓reduceIte,reduceCtorEq]
   refine hK22 _ ?_
   refine Ah ?_
   simp (disch:=omega) only [amL,amT,sA,sF,↓reduceIte]
   refine hK4 (k+1) _ ?_ ?_ (Dg ?_ ?_ ?_ ?_)
   all_goals (try simp (disch:=omega) only [amL,sF,sG,↓reduceIte])
   all_goals first | omega | exact congrArg (AV.own _) (Aw2 (by omega)) | exact congrArg (AO.arr 2) (Aop default (by omega)) | trace_state
theorem elV:ElT Tryz.prog 35 128 avV Aeo:=Zo (P:=Tryz.prog) (tS:=35) (tE:=128) (enc:=Aeo) (n:=5) (by simp only [amT]) (by simp only [amT]; rfl) (by simp only [amT]) (fun _=>rfl)
theorem elS:ElT Tryz.prog 36 135 avS Pz:=Zo (P:=Tryz.prog) (tS:=36) (tE:=135) (enc:=Pz) (n:=5) (by simp only [amT]) (by simp only [amT]; rfl) (by simp only [amT]) (fun _=>rfl)
theorem elR:ElT Tryz.prog 113 58 avR Hy:=Zo (P:=Tryz.prog) (tS:=113) (tE:=58) (enc:=Hy) (n:=2) (by simp only [amT]) (by simp only [amT]; rfl) (by simp only [amT]) (fun _=>rfl)
theorem elN:ElT Tryz.prog 26 3 i64 J3:=Aqb (P:=Tryz.prog) (tS:=26) (tE:=3) (f:=fun n=>iv n) (by simp only [amT]) (by simp only [amT]; rfl) (by simp only [amT])
theorem sfV:Mf Tryz.prog 35 128 132 3 4 127 105:=⟨⟨_,Tryz.func127,rfl,rfl,rfl,by kernel_rfl⟩,⟨_,Tryz.func105,rfl,rfl,rfl,by kernel_rfl⟩⟩
theorem afV:Ai3 Tryz.prog 35 128 132 4 105 106 66:=⟨⟨_,Tryz.func106,rfl,rfl,rfl,by kernel_rfl⟩,⟨_,Tryz.func66,rfl,rfl,rfl,by kernel_rfl⟩⟩
theorem sfS:Mf Tryz.prog 36 135 130 3 4 128 107:=⟨⟨_,Tryz.func128,rfl,rfl,rfl,by kernel_rfl⟩,⟨_,Tryz.func107,rfl,rfl,rfl,by kernel_rfl⟩⟩
theorem afS:Ai3 Tryz.prog 36 135 130 4 107 108 68:=⟨⟨_,Tryz.func108,rfl,rfl,rfl,by kernel_rfl⟩,⟨_,Tryz.func68,rfl,rfl,rfl,by kernel_rfl⟩⟩
theorem Ayi (l:List Ves) (hl:l.length < 1000000) {os:Nat→Option AO} {bd:Nat}:Bh Tryz.prog bd (.fn (.func 66) [] []) [.p (slV l),.fn (.func 67) [] []] os fun res os'=>res=bl (l.all Er)∧os'=os:=
  Al8 elV sfV afV (by simp only [amT]; rfl) (by kernel_rfl) rfl (fun x _=>Am8 x) hl
theorem Axg (b:Eg) (l:List Stp) (hb:b.vs.length < 1000000) (hl:l.length < 1000000) {os:Nat→Option AO} {bd:Nat}:Bh Tryz.prog bd (.fn (.func 68) [] []) [.p (slS l),.fn (.func 65) [avB b] []] os fun res os'=>res=bl (l.all (F4 b.vs.length))∧os'=os:=
  Al8 elS sfS afS (by simp only [amT]; rfl) (by kernel_rfl) rfl (fun x _=>Ay8 b x hb) hl
theorem Ajt {p s:Int} (h1:1≤p) (h2:p≤4782969) (h3:1≤s) (h4:s≤3):-9223372036854775808≤p * s∧p * s < 9223372036854775808:=by
  have e1:=Int.mul_le_mul h2 h4 (by omega) (by omega)
  have e2:=Int.mul_nonneg (show 0≤p by omega) (show 0≤s by omega)
  omega
theorem Ahm (b:Eg) (hl:b.vs.length < 1000000) (hl2:b.ss.length < 1000000):Bu Tryz.prog 19 [avB b] (i64 (B5 b)):=by
  refine Bo (v:=[66,68]) (q:=[]) (N:=52) (rs:=[.tmp 2]) Tryz.func19 rfl rfl rfl rfl rfl ?_
  refine Ad fun K1 hK1=>?_
  simp (disch:=omega) only [amL,sA,↓reduceIte]
  refine hK1 _ ?_
  refine Ad fun K2 hK2=>?_
  simp (disch:=omega) only [amL,amT,sA,sB,sF,↓reduceIte]
  refine hK2 _ ?_
  refine Ab fun K3 hK3=>?_
  refine Au ?_
  refine Ad fun K4 hK4=>?_
  simp (disch:=omega) only [amL,amT,sA,sF,↓reduceIte,reduceCtorEq]
  repeat' first | (refine E3 (fun h=>?_) (fun h=>?_) <;> simp (disch:=omega) only [h,amL,amT,sA,sF,↓reduceIte,reduceCtorEq]) | (refine Cz (fun h=>?_) (fun h=>?_) <;> simp (disch:=omega) only [h,Bi,amL,amT,sA,sB,sC,sD,sE,sF,sG,sH,sI,sJ,sK,sL,sM,sN,sO,↓reduceIte,reduceCtorEq])
  all_goals
   skip
   refine hK4 _ ?_
   refine Al rfl (fun h=>MT.x ?_) (fun h=>ME.x ?_)
   all_goals
    first
    |refine MT.mk ?_
     first
     |exact Bool.noConfusion h
     |skip
      try simp only [nrm] at h
      refine Ad fun K5 hK5=>?_
      simp (disch:=omega) only [amL,sA]
      refine hK5 _ ?_
      refine Aj ?_
      try simp (disch:=omega) only [amL,↓reduceIte]
      all_goals first | (unfold B5; rw [if_pos (by omega)]; done) | (unfold B5; rw [if_neg (by omega),if_pos (by omega)]; done) | (unfold B5; rw [if_neg (by omega),if_neg (by omega),if_pos (by first | (simp_all; done) | fail)]; done) | (unfold B5; rw [if_neg (by omega),if_neg (by omega),if_neg (by first | (simp_all; done) | fail),if_pos (by first | assumption | fail)]; done) | (unfold B5; rw [if_neg (by omega),if_neg (by omega),if_neg (by rw [hv]; decide),if_neg (by rw [hs]; decide)]; rw [Wg (by assumption) (by assumption)] at h; first | (rw [if_pos (show 2000 < N1 b from h)]; done) | (rw [if_neg (show ¬ 2000 < N1 b from h)]; done)) | trace_state
    |refine ME.mk ?_
     first
     |exact Bool.noConfusion h
     |skip
      try simp only [nrm] at h
      refine Ad fun K6 hK6=>?_
      simp (disch:=omega) only [amL,amT,sA,sF,↓reduceIte,reduceCtorEq]
      repeat' first | (refine E3 (fun h=>?_) (fun h=>?_) <;> simp (disch:=omega) only [h,amL,amT,sA,sF,sG,↓reduceIte,reduceCtorEq]) | (refine Cz (fun h=>?_) (fun h=>?_) <;> simp (disch:=omega) only [h,amL,amT,sA,sF,sG,↓reduceIte,reduceCtorEq]) | (refine Cc (bd:=52) (by decide) (Ayi b.vs hl) (Lg rfl) (by decide) rfl ?_ ; simp (disch:=omega) only [amL,sA,sF,↓reduceIte]) | (refine Cc (bd:=52) (by decide) (Axg b b.ss hl hl2) (Lg rfl) (by decide) rfl ?_ ; simp (disch:=omega) only [amL,sA,sF,↓reduceIte])
      all_goals
       skip
       refine hK6 _ ?_
       refine Al rfl (fun h=>MT.x ?_) (fun h=>ME.x ?_)
       all_goals
        first
        |refine MT.mk ?_
         first
         |exact Bool.noConfusion h
         |skip
          try simp only [nrm] at h
          refine Ad fun K7 hK7=>?_
          simp (disch:=omega) only [amL,sA]
          refine hK7 _ ?_
          refine Aj ?_
          try simp (disch:=omega) only [amL,↓reduceIte]
          all_goals first | (unfold B5; rw [if_pos (by omega)]; done) | (unfold B5; rw [if_neg (by omega),if_pos (by omega)]; done) | (unfold B5; rw [if_neg (by omega),if_neg (by omega),if_pos (by first | (simp_all; done) | fail)]; done) | (unfold B5; rw [if_neg (by omega),if_neg (by omega),if_neg (by first | (simp_all; done) | fail),if_pos (by first | assumption | fail)]; done) | (unfold B5; rw [if_neg (by omega),if_neg (by omega),if_neg (by rw [hv]; decide),if_neg (by rw [hs]; decide)]; rw [Wg (by assumption) (by assumption)] at h; first | (rw [if_pos (show 2000 < N1 b from h)]; done) | (rw [if_neg (show ¬ 2000 < N1 b from h)]; done)) | trace_state
        |refine ME.mk ?_
         first
         |exact Bool.noConfusion h
         |skip
          try simp only [nrm] at h
          refine Am ?_
          refine hK3 _ ?_
   all_goals
    skip
    refine Ad fun K8 hK8=>?_
    have hv:b.vs.all Er=true:=by simp_all
    have hs:b.ss.all (F4 b.vs.length)=true:=by simp_all
    have hpb:=Um (Yo hv hs)
    have hln:=Qo (b:=b)
    simp (disch:=omega) only [amL,sA]
    refine hK8 _ ?_
    refine Ab fun K9 hK9=>?_
    refine Ad fun K10 hK10=>?_
    simp (disch:=omega) only [amL,amT,sA,sB,sF,sG,↓reduceIte]
    repeat' first | (refine Ax (by kernel_rfl) rfl (Abo b hl hl2) (by first | exact .inl rfl | exact .inr (.inl rfl)) ?_ ; simp (disch:=omega) only [amL,amT,sA,↓reduceIte])
    refine hK10 _ ?_
    refine Au ?_
    skip
    refine Bg (α:=Nat) (fun k=>⟨T [(4,i64 (Ma ((Fy b).take k) 1)),(39,.p (.sl ((Fy b).map Hy))),(40,i64 (Fy b).length),(41,i64 (k:Int))],O []⟩) (fun k=>(Fy b).length - k) (fun k=>k≤(Fy b).length) 0 ?_ ?_ (fun k hx11 K11 hK11=>?_)
    · simp
    · refine Dg ?_ ?_ ?_ ?_ <;> (try simp (disch:=omega) only [amL,sF,↓reduceIte]); all_goals rfl
    have hk:=hx11
    refine Ad fun K12 hK12=>?_
    simp (disch:=omega) only [amL,amT,sA,sF,↓reduceIte]
    refine hK12 _ ?_
    refine Ab fun K13 hK13=>?_
    refine Al rfl (fun h=>MT.x ?_) (fun h=>ME.x ?_)
    all_goals
     first
     |refine MT.mk ?_
      first
      |exact Bool.noConfusion h
      |skip
       try simp only [nrm] at h
       refine Am ?_
       refine hK13 _ ?_
     |refine ME.mk ?_
      first
      |exact Bool.noConfusion h
      |skip
       try simp only [nrm] at h
       refine Bq ?_
       refine hK9 _ ?_
       refine Ab fun K14 hK14=>?_
       refine Ad fun K15 hK15=>?_
       simp (disch:=omega) only [amL,amT,sA,sF,↓reduceIte]
       refine hK15 _ ?_
       refine Al rfl (fun h=>MT.x ?_) (fun h=>ME.x ?_)
       all_goals
        first
        |refine MT.mk ?_
         first
         |exact Bool.noConfusion h
         |skip
          try simp only [nrm] at h
          refine Ad fun K16 hK16=>?_
          simp (disch:=omega) only [amL,sA]
          refine hK16 _ ?_
          refine Aj ?_
          try simp (disch:=omega) only [amL,↓reduceIte]
          all_goals first | (unfold B5; rw [if_pos (by omega)]; done) | (unfold B5; rw [if_neg (by omega),if_pos (by omega)]; done) | (unfold B5; rw [if_neg (by omega),if_neg (by omega),if_pos (by first | (simp_all; done) | fail)]; done) | (unfold B5; rw [if_neg (by omega),if_neg (by omega),if_neg (by first | (simp_all; done) | fail),if_pos (by first | assumption | fail)]; done) | (unfold B5; rw [if_neg (by omega),if_neg (by omega),if_neg (by rw [hv]; decide),if_neg (by rw [hs]; decide)]; rw [Wg (by assumption) (by assumption)] at h; first | (rw [if_pos (show 2000 < N1 b from h)]; done) | (rw [if_neg (show ¬ 2000 < N1 b from h)]; done)) | trace_state
        |refine ME.mk ?_
         first
         |exact Bool.noConfusion h
         |skip
          try simp only [nrm] at h
          refine Am ?_
          refine hK14 _ ?_
       all_goals
        skip
        refine Ad fun K17 hK17=>?_
        simp (disch:=omega) only [amL,sA]
        refine hK17 _ ?_
        refine Aj ?_
        try simp (disch:=omega) only [amL,↓reduceIte]
        all_goals first | (unfold B5; rw [if_pos (by omega)]; done) | (unfold B5; rw [if_neg (by omega),if_pos (by omega)]; done) | (unfold B5; rw [if_neg (by omega),if_neg (by omega),if_pos (by first | (simp_all; done) | fail)]; done) | (unfold B5; rw [if_neg (by omega),if_neg (by omega),if_neg (by first | (simp_all; done) | fail),if_pos (by first | assumption | fail)]; done) | (unfold B5; rw [if_neg (by omega),if_neg (by omega),if_neg (by rw [hv]; decide),if_neg (by rw [hs]; decide)]; rw [Wg (by assumption) (by assumption)] at h; first | (rw [if_pos (show 2000 < N1 b from h)]; done) | (rw [if_neg (show ¬ 2000 < N1 b from h)]; done)) | trace_state
    all_goals
     skip
     refine Ab fun K18 hK18=>?_
     refine Au ?_
     refine Ad fun K19 hK19=>?_
     simp (disch:=omega) only [Bi,amL,amT,sA,sB,sF,↓reduceIte]
     refine hK19 _ ?_
     refine Ah ?_
     have hsz:=Yo hv hs _ (AM.Wort.Du default (show k < (Fy b).length by omega))
     have hp:=hpb k (by omega)
     have hp3:=Ask (k:=k) (by omega)
     have hm:=Ajt hp.1 (by omega) hsz.1 hsz.2
     have hw:IntKind.i64.wrap (Ma ((Fy b).take k) 1 * Fa ((Fy b).getD k default))=_:=Fc hm.1 hm.2
     have hw2:IntKind.i64.wrap ((k:Int)+1)=_:=Fc (by omega) (by omega)
     unfold Fa at hsz
     simp (disch:=omega) only [amL,amT,sA,sB,sF,sG,↓reduceIte]
     repeat' first | (refine Ax (by kernel_rfl) rfl (Ad9 ((Fy b).getD k default) (by omega) (by omega)) (by first | exact .inl rfl | exact .inr (.inl rfl)) ?_ ; simp (disch:=omega) only [amL,amT,sA,sF,↓reduceIte])
     refine hK18 _ ?_
     refine Ah ?_
     simp (disch:=omega) only [amL,amT,sA,sF,↓reduceIte]
     refine hK11 (k+1) _ ?_ ?_ (Dg ?_ ?_ ?_ ?_)
     all_goals (try simp (disch:=omega) only [amL,sF,↓reduceIte])
     all_goals first | omega | (rw [Ui (l:=Fy b) (k:=k) (by omega)]) | trace_state
theorem Ay {l:List (Nat × AO)} {b:Nat} (h:l.all fun x=>decide (x.1 < b)):∀ n,b≤n→O l n=none:=by
  intro n hn
  induction l with
  | nil=>rfl
  | cons x l ih=>
    simp only [List.all_cons,Bool.and_eq_true,decide_eq_true_eq] at h
    rw [Ag,if_neg (by omega)]
    exact ih h.2
theorem Bw {r:RB} {N:Nat} {s:St} {K:St→Prop} {dst:Option Nat} {ty:TypeId} {pos:String} {after:Array Edge} {g:Option (Nat × Bool)} {x:Operand} {lo hi:Option Operand}:EO Tryz.prog r N ⟨dst,.slice 120 x lo hi none,ty,pos,after,g⟩ s K=EOp r.b N dst s K (Aru (fun e=>(Aa Tryz.prog e).sz) (fun e=>(Aa Tryz.prog e).agg) 4 118 (ev s.t x) (Ba (ev s.t) 0 lo) (Ba (ev s.t) 4 hi)):=Y1 (by rw [Ahv])
theorem ld2 {a b:AV} {l:List AV}:(if 2≤(a :: b :: l).length then some (AV.agg (List.take 2 (a :: b :: l))) else none)=some (.agg [a,b]):=by simp
theorem B7 {n:Nat} (v:List Liq):(cW v).map (AV.purge n)=cW v:=by
  unfold cW
  rw [List.map_map]; rfl
theorem Aew {ks:List Nat} (v:List Liq):nmL ks (cW v)=true:=by
  unfold cW
  generalize wI v=l
  induction l with
  | nil=>rfl
  | cons x l ih=>simp only [List.map_cons,nmL,nm,ih,Bool.and_self]
def Dl (b:Eg) (t:Tru):AV:=
  if B5 b=0 then
    if F7 b t=true then
      if (Md b t).2=true then .tup [.p (.sl (((Md b t).1.take b.vs.length).map fun l=>Bag (Bby l))),i64 0] else .tup [C4,i64 11]
    else .tup [C4,i64 2]
  else .tup [C4,i64 (B5 b)]
theorem Akv (b:Eg) (t:Tru):(Dl b t).isP=true:=by
  unfold Dl; split <;> (try split) <;> (try split) <;> rfl
theorem Arv (b:Eg) (t:Tru) (hl:b.vs.length < 1000000) (hl2:b.ss.length < 1000000) (hn:(Js t).length≤1000000):Bu Tryz.prog 15 [avB b,avT t] (Dl b t):=by
  refine Bo (v:=[60,61]) (q:=[]) (N:=99) (rs:=[.tmp 4,.tmp 5]) Tryz.func15 rfl rfl rfl rfl (Akv b t) ?_
  have hnl:=An8 t
  have hrl:=Qo (b:=b)
  have hcc:=Anv [t.g,t.d,t.m] (by simp) hn
  rw [show [t.g,t.d,t.m].flatten=Js t from rfl] at hcc
  refine Ab fun K1 hK1=>?_
  refine Ah ?_
  simp (disch:=omega) only [Af,Ag,amL,sA,sB,sF,↓reduceIte,reduceCtorEq]
  refine hK1 _ ?_
  refine Ab fun K2 hK2=>?_
  refine Ab fun K3 hK3=>?_
  refine Ah ?_
  simp (disch:=omega) only [Af,Ag,amL,amT,sA,sB,sF,sG,↓reduceIte]
  repeat' first | (refine Ax (by kernel_rfl) rfl (Ahm b hl hl2) (by first | exact .inl rfl | exact .inr (.inl rfl)) ?_ ; simp (disch:=omega) only [Af,amL,sA,↓reduceIte])
  refine hK3 _ ?_
  refine Ab fun K4 hK4=>?_
  refine Ah ?_
  simp (disch:=omega) only [ne_eq,Af,amL,amT,sA,↓reduceIte]
  refine hK4 _ ?_
  refine Al rfl (fun h=>?_) (fun h=>?_)
  ·first
   | exact Bool.noConfusion h
   |skip
    try simp only [Bool.not_eq_true',decide_eq_false_iff_not,decide_not] at h
    refine Ab fun K5 hK5=>?_
    refine Ah ?_
    simp (disch:=omega) only [Af,amL,sA,sF,↓reduceIte]
    refine hK5 _ ?_
    refine Aj ?_
    try simp (disch:=omega) only [Af,amL,sF,↓reduceIte]
    all_goals first | (rw [Dl,if_neg (by assumption)]; done) | (have e9:k=b.vs.length:=(by omega) ; rw [Dl,if_pos hf0,if_pos hli,if_pos hbt,List.take_of_length_le (by simp ; omega),e9,hw] ; done) | (rw [Dl,if_pos hf0,if_pos hli,if_neg (by simpa using h)]; done) | (rw [Dl,if_pos (by omega),if_neg (fun e=>by have:=Dk e; omega)]; done) | (rw [Dl,if_pos (by omega),if_neg (fun e=>by have:=Kn e (k:=k) (by omega); simp_all)]; done) | trace_state
  ·first
   | exact Bool.noConfusion h
   |skip
    try simp only [decide_eq_true_eq,Bool.not_eq_false',decide_not] at h
    refine Am ?_
    refine hK2 _ ?_
    refine Ab fun K6 hK6=>?_
    refine Ah ?_
    simp (disch:=omega) only [and_self,Af,Ag,amL,amT,sA,sB,sE,sF,sG,↓reduceIte,reduceCtorEq]
    repeat' first | (refine Ux (by kernel_rfl) (by decide) (hcc) (by simp (disch:=omega) only [Ag,amL,sF,↓reduceIte]) ?_ ; simp (disch:=omega) only [Af,amL,sA,↓reduceIte])
    refine hK6 _ ?_
    refine Ab fun K7 hK7=>?_
    refine Ab fun K8 hK8=>?_
    refine Ah ?_
    simp (disch:=omega) only [ne_eq,Af,Ag,amL,amT,sA,sF,↓reduceIte,reduceCtorEq]
    repeat' first | (refine E3 (fun h=>?_) (fun h=>?_) <;> simp (disch:=omega) only [h,ne_eq,Af,Ag,amL,amT,sA,sF,↓reduceIte,reduceCtorEq]) | (refine Cz (fun h=>?_) (fun h=>?_) <;> simp (disch:=omega) only [h,Bi,Bm,ne_eq,Ac,A3,Aw,Bb,A4,and_self,Af,Ag,A0,Bw,B1,Bl,Bk,B4,Ke,Jm,Lk,Int.sub_zero,Int.toNat_natCast,B9,ld2,B7,amL,amT,sA,sB,sC,sD,sE,sF,sG,sH,sI,sJ,sK,sL,sM,sN,sO,↓reduceIte,reduceCtorEq])
    all_goals
     skip
     refine hK8 _ ?_
     refine Al rfl (fun h=>?_) (fun h=>?_)
     ·first
      | exact Bool.noConfusion h
      |skip
       try simp only [Bool.not_eq_true',decide_eq_false_iff_not,decide_not] at h
       refine Ab fun K9 hK9=>?_
       refine Ah ?_
       simp (disch:=omega) only [amL,sA]
       refine hK9 _ ?_
       refine Aj ?_
       try simp (disch:=omega) only [Af,amL,sF,↓reduceIte]
       all_goals first | (rw [Dl,if_neg (by assumption)]; done) | (have e9:k=b.vs.length:=(by omega) ; rw [Dl,if_pos hf0,if_pos hli,if_pos hbt,List.take_of_length_le (by simp ; omega),e9,hw] ; done) | (rw [Dl,if_pos hf0,if_pos hli,if_neg (by simpa using h)]; done) | (rw [Dl,if_pos (by omega),if_neg (fun e=>by have:=Dk e; omega)]; done) | (rw [Dl,if_pos (by omega),if_neg (fun e=>by have:=Kn e (k:=k) (by omega); simp_all)]; done) | trace_state
     ·first
      | exact Bool.noConfusion h
      |skip
       try simp only [decide_eq_true_eq,Bool.not_eq_false',decide_not] at h
       refine Am ?_
       refine hK7 _ ?_
       refine Ab fun K10 hK10=>?_
       refine Ab fun K11 hK11=>?_
       refine Ah ?_
       simp (disch:=omega) only [Af,Ag,amL,amT,sA,sB,sF,sG,↓reduceIte]
       repeat' first | (refine Ax (by kernel_rfl) rfl (Abo b hl hl2) (by first | exact .inl rfl | exact .inr (.inl rfl)) ?_ ; simp (disch:=omega) only [Af,amL,amT,sA,↓reduceIte])
       refine hK11 _ ?_
       refine Au ?_
       skip
       refine Bg (α:=Nat) (fun k=>⟨T [(2,.ptr 2 0),(3,.ptr 3 0),(4,C4),(5,i64 0),(6,i64 (B5 b)),(7,.own 27 (Js t).length),(54,.p (.sl ((Fy b).map Hy))),(55,i64 (Fy b).length),(56,i64 (k:Int))],O [(2,.cells (cB b)),(3,.cells (cT t)),(27,.arr 1 ((Js t).map J3))]⟩) (fun k=>(Fy b).length - k) (fun k=>k≤(Fy b).length∧∀ j,j < k→Jk ((Fy b).getD j default) ((Js t).getD j 0)=true) 0 ?_ ?_ (fun k hx12 K12 hK12=>?_)
       · exact ⟨by simp,fun j hj=>absurd hj (Nat.not_lt_zero _)⟩
       · refine Dg ?_ ?_ ?_ ?_ <;> (try simp (disch:=omega) only [A3,Aw,Bb,A4,and_self,Af,Ag,amL,sF,sG,↓reduceIte]); all_goals first | rfl | trace_state
       obtain ⟨hk,hpre⟩:=hx12
       refine Ab fun K13 hK13=>?_
       refine Ah ?_
       simp (disch:=omega) only [Af,amL,amT,sA,sF,↓reduceIte]
       refine hK13 _ ?_
       refine Ab fun K14 hK14=>?_
       refine Al rfl (fun h=>?_) (fun h=>?_)
       ·first
        | exact Bool.noConfusion h
        |skip
         try simp only [decide_eq_true_eq] at h
         refine Am ?_
         refine hK14 _ ?_
         refine Ab fun K15 hK15=>?_
         refine Au ?_
         refine Ab fun K16 hK16=>?_
         refine Ah ?_
         simp (disch:=omega) only [Bi,and_self,Af,Ag,Int.toNat_natCast,amL,amT,sA,sB,sF,↓reduceIte]
         refine hK16 _ ?_
         refine Ab fun K17 hK17=>?_
         refine Cj (by kernel_rfl) (by kernel_rfl) ?_
         simp (disch:=omega) only [Bm,and_self,Af,Ag,Int.toNat_natCast,amL,amT,sA,sB,sF,sG,↓reduceIte]
         repeat' first | (refine Ax (by kernel_rfl) rfl (Agb ((Fy b).getD k default) ((Js t).getD k 0)) (by first | exact .inl rfl | exact .inr (.inl rfl)) ?_ ; simp (disch:=omega) only [Af,amL,sA,↓reduceIte])
         refine hK17 _ ?_
         refine Al rfl (fun h=>?_) (fun h=>?_)
         ·first
          | exact Bool.noConfusion h
          |skip
           try simp only [Bool.not_eq_true'] at h
           refine Ab fun K18 hK18=>?_
           refine Ah ?_
           simp (disch:=omega) only [amL,sA]
           refine hK18 _ ?_
           refine Aj ?_
           try simp (disch:=omega) only [Af,amL,sF,↓reduceIte]
           all_goals first | (rw [Dl,if_neg (by assumption)]; done) | (have e9:k=b.vs.length:=(by omega) ; rw [Dl,if_pos hf0,if_pos hli,if_pos hbt,List.take_of_length_le (by simp ; omega),e9,hw] ; done) | (rw [Dl,if_pos hf0,if_pos hli,if_neg (by simpa using h)]; done) | (rw [Dl,if_pos (by omega),if_neg (fun e=>by have:=Dk e; omega)]; done) | (rw [Dl,if_pos (by omega),if_neg (fun e=>by have:=Kn e (k:=k) (by omega); simp_all)]; done) | trace_state
         ·first
          | exact Bool.noConfusion h
          |skip
           try simp only [Bool.not_eq_false'] at h
           refine Am ?_
           refine hK15 _ ?_
           refine Ah ?_
           simp (disch:=omega) only [Af,amL,amT,sA,sF,↓reduceIte]
           refine hK12 (k+1) _ ?_ ?_ (Dg ?_ ?_ ?_ ?_)
           all_goals (try simp (disch:=omega) only [A3,Aw,Bb,A4,and_self,Af,Ag,amL,sF,sG,↓reduceIte])
           all_goals first | omega | exact ⟨by omega,fun j hj=>by
             by_cases e:j=k
             · subst e; assumption
             · exact hpre j (by omega)⟩ | trace_state
       ·first
        | exact Bool.noConfusion h
        |skip
         try simp only [decide_eq_false_iff_not] at h
         refine Bq ?_
         refine hK10 _ ?_
         refine Ab fun K19 hK19=>?_
         have hli:F7 b t=true:=Ajj (by omega) (by omega) (by omega) (fun j hj=>hpre j (by omega))
         have hf0:B5 b=0:=by omega
         have hval:=Adn hf0
         obtain ⟨hw4,hwo⟩:=Ano hval hli
         obtain ⟨w,hw⟩:∃ w,w=(Md b t).1:=⟨_,rfl⟩
         rw [← hw] at hw4 hwo
         have hpc:A1 [i64 0,i64 0,i64 0,i64 0,i64 0,i64 0,i64 0,i64 0] 0 (cW w)=cW w:=Cb (v:=v0) hw4
         refine Ah7 [(2,.ptr 2 0),(4,C4),(5,i64 0),(10,.ptr 10 0),(11,bl (Md b t).2)] [(2,.cells (cB b)),(10,.cells (cW w))] hK19 rfl (by simp only [Vv,nmO,Aew,nmL,nm,Bool.and_self]) ?_ (fun K19 hK19=>?_)
         · refine Apj (n:=5) (l:=[0,1,0,7,15,31,31,0,191,511]) (by kernel_rfl) (by kernel_rfl) (by kernel_rfl) ?_
           refine Fi (ls:=[0,2,7]) rfl ⟨?_,?_,?_,trivial⟩
           · refine Dz (rem':=[1,2,3,4,5,6,7,8,9]) rfl rfl ?_
             simp (disch:=omega) only [Af,Ag,amL,amT,sA,sB,sF,↓reduceIte]
             refine Fi (ls:=[1,2,7]) rfl ⟨?_,?_,?_,trivial⟩
             · refine Dz (rem':=[2,3,4,5,6,7,8,9]) rfl rfl ?_
               simp (disch:=omega) only [Af,amL,sG,↓reduceIte]
               refine A2 [(2,.ptr 2 0),(3,.ptr 3 0),(4,C4),(5,i64 0)] (by decide) (Dp (b:=b) (bd:=99)) (Ay rfl) (by decide) (fun res os2 hR hcl2 hlv2=>?_)
               obtain ⟨rfl,rfl⟩:=hR
               simp (disch:=omega) only [A3,Aw,and_self,Af,Ag,amL,sB,sF,↓reduceIte]
               refine Fi (ls:=[2,7]) rfl ⟨?_,?_,trivial⟩
               · refine Dz (rem':=[3,4,5,6,7,8,9]) rfl rfl ?_
                 simp (disch:=omega) only [Af,Ag,amL,amT,sA,sB,sF,↓reduceIte]
                 refine Fi (ls:=[3,7]) rfl ⟨?_,?_,trivial⟩
                 · refine Dz (rem':=[4,5,6,7,8,9]) rfl rfl ?_
                   simp (disch:=omega) only [Af,amL,sF,sG,↓reduceIte]
                   (refine Cc (bd:=300) (by decide) (Ek (m:=103) ⟨by simp (disch:=omega) only [Ag,↓reduceIte],by simp (disch:=omega) only [Ag,sF,↓reduceIte]⟩ hval hli) (fun q hq=>by simp (disch:=omega) only []; exact Ay rfl q (by omega)) (by decide) (D7 _ _) ?_ ; rw [← hw] ; simp (disch:=omega) only [amL])
                   refine D1 (by kernel_rfl) ?_
                   show EL _ _ _ _ [_,_,_,_,_,_] _ _
                   simp (disch:=omega) only [and_self,Af,Ag,A0,amL,amT,sA,sB,sF,↓reduceIte]
                   try (refine A2 [(2,.ptr 2 0),(3,.ptr 3 0),(4,C4),(5,i64 0),(72,avT t),(10,.ptr 10 0)] (by decide) (Dp (b:=b) (bd:=99)) (Ay rfl) (by decide) (fun res os2 hR hcl2 hlv2=>?_) ; obtain ⟨rfl,rfl⟩:=hR ; simp (disch:=omega) only [Bi,Bm,ne_eq,Ac,A3,Aw,Bb,A4,and_self,Af,Ag,A0,Bw,B1,Bl,Bk,B4,Ke,Jm,Lk,Int.sub_zero,Int.toNat_natCast,B9,ld2,B7,amL,amT,sA,sB,sC,sD,sE,sF,sG,sH,sI,sJ,sK,sL,sM,sN,sO,↓reduceIte,reduceCtorEq])
                   try (refine Cc (bd:=300) (by decide) (Ek (m:=103) ⟨by simp (disch:=omega) only [Bi,Bm,ne_eq,Ac,A3,Aw,Bb,A4,and_self,Af,Ag,A0,Bw,B1,Bl,Bk,B4,Ke,Jm,Lk,Int.sub_zero,Int.toNat_natCast,B9,ld2,B7,amL,amT,sA,sB,sC,sD,sE,sF,sG,sH,sI,sJ,sK,sL,sM,sN,sO,↓reduceIte,reduceCtorEq],by simp (disch:=omega) only [Bi,Bm,ne_eq,Ac,A3,Aw,Bb,A4,and_self,Af,Ag,A0,Bw,B1,Bl,Bk,B4,Ke,Jm,Lk,Int.sub_zero,Int.toNat_natCast,B9,ld2,B7,amL,amT,sA,sB,sC,sD,sE,sF,sG,sH,sI,sJ,sK,sL,sM,sN,sO,↓reduceIte,reduceCtorEq]⟩ hval hli) (fun q hq=>by simp (disch:=omega) only [Ac]; exact Ay rfl q (by omega)) (by decide) (D7 _ _) ?_ ; rw [← hw] ; simp (disch:=omega) only [Bi,Bm,ne_eq,Ac,A3,Aw,Bb,A4,and_self,Af,Ag,A0,Bw,B1,Bl,Bk,B4,Ke,Jm,Lk,Int.sub_zero,Int.toNat_natCast,B9,ld2,B7,amL,amT,sA,sB,sC,sD,sE,sF,sG,sH,sI,sJ,sK,sL,sM,sN,sO,↓reduceIte,reduceCtorEq])
                   exact ⟨rfl,by simp (disch:=omega) only [A3,Aw,and_self,Af,sF,↓reduceIte],by simp (disch:=omega) only [Bb,A4,Ag,amL,sF,↓reduceIte] ; try exact congrArg AO.cells hpc⟩
                 · refine Dz (rem':=[3,4,5,6,8,9]) rfl rfl ?_
                   simp (disch:=omega) only [and_self,Ag,amL,amT,sA,sB,sF,↓reduceIte]
                   refine D1 (by kernel_rfl) ?_
                   show EL _ _ _ _ [_,_,_,_,_,_] _ _
                   simp (disch:=omega) only [Af,amL,sF,sG,↓reduceIte]
                   try (refine A2 [(2,.ptr 2 0),(3,.ptr 3 0),(4,C4),(5,i64 0),(72,avT t),(10,.ptr 10 0)] (by decide) (Dp (b:=b) (bd:=99)) (Ay rfl) (by decide) (fun res os2 hR hcl2 hlv2=>?_) ; obtain ⟨rfl,rfl⟩:=hR ; simp (disch:=omega) only [Bi,Bm,ne_eq,Ac,A3,Aw,Bb,A4,and_self,Af,Ag,A0,Bw,B1,Bl,Bk,B4,Ke,Jm,Lk,Int.sub_zero,Int.toNat_natCast,B9,ld2,B7,amL,amT,sA,sB,sC,sD,sE,sF,sG,sH,sI,sJ,sK,sL,sM,sN,sO,↓reduceIte,reduceCtorEq])
                   try (refine Cc (bd:=300) (by decide) (Ek (m:=103) ⟨by simp (disch:=omega) only [Ag,sF,↓reduceIte],by simp (disch:=omega) only [Ag,sF,↓reduceIte]⟩ hval hli) (fun q hq=>by simp (disch:=omega) only []; exact Ay rfl q (by omega)) (by decide) (D7 _ _) ?_ ; rw [← hw] ; simp (disch:=omega) only [Af,Ag,A0,amL,amT,sA,sB,sF,↓reduceIte])
                   exact ⟨rfl,by simp (disch:=omega) only [A3,Aw,and_self,Af,sF,↓reduceIte],by simp (disch:=omega) only [Bb,A4,Ag,amL,sF,↓reduceIte] ; try exact congrArg AO.cells hpc⟩
               · refine Dz (rem':=[2,3,4,5,6,8,9]) rfl rfl ?_
                 simp (disch:=omega) only [and_self,Ag,amL,amT,sA,sB,sF,↓reduceIte]
                 refine D1 (by kernel_rfl) ?_
                 show EL _ _ _ _ [_,_,_,_,_,_,_] _ _
                 simp (disch:=omega) only [Af,Ag,amL,amT,sA,sB,sF,sG,↓reduceIte]
                 try (refine A2 [(2,.ptr 2 0),(3,.ptr 3 0),(4,C4),(5,i64 0),(72,avT t),(10,.ptr 10 0)] (by decide) (Dp (b:=b) (bd:=99)) (Ay rfl) (by decide) (fun res os2 hR hcl2 hlv2=>?_) ; obtain ⟨rfl,rfl⟩:=hR ; simp (disch:=omega) only [Bi,Bm,ne_eq,Ac,A3,Aw,Bb,A4,and_self,Af,Ag,A0,Bw,B1,Bl,Bk,B4,Ke,Jm,Lk,Int.sub_zero,Int.toNat_natCast,B9,ld2,B7,amL,amT,sA,sB,sC,sD,sE,sF,sG,sH,sI,sJ,sK,sL,sM,sN,sO,↓reduceIte,reduceCtorEq])
                 try (refine Cc (bd:=300) (by decide) (Ek (m:=103) ⟨by simp (disch:=omega) only [Ag,sF,↓reduceIte],by simp (disch:=omega) only [Ag,sF,↓reduceIte]⟩ hval hli) (fun q hq=>by simp (disch:=omega) only []; exact Ay rfl q (by omega)) (by decide) (D7 _ _) ?_ ; rw [← hw] ; simp (disch:=omega) only [Af,Ag,A0,amL,amT,sA,sB,sF,↓reduceIte])
                 exact ⟨rfl,by simp (disch:=omega) only [A3,Aw,and_self,Af,sF,↓reduceIte],by simp (disch:=omega) only [Bb,A4,Ag,amL,sF,↓reduceIte] ; try exact congrArg AO.cells hpc⟩
             · refine Dz (rem':=[1,3,4,5,6,7,8,9]) rfl rfl ?_
               simp (disch:=omega) only [Af,Ag,amL,amT,sA,sB,sF,↓reduceIte]
               refine Fi (ls:=[1,7]) rfl ⟨?_,?_,trivial⟩
               · refine Dz (rem':=[3,4,5,6,7,8,9]) rfl rfl ?_
                 simp (disch:=omega) only [Af,amL,sF,sG,↓reduceIte]
                 refine A2 [(2,.ptr 2 0),(3,.ptr 3 0),(4,C4),(5,i64 0),(72,avT t)] (by decide) (Dp (b:=b) (bd:=99)) (Ay rfl) (by decide) (fun res os2 hR hcl2 hlv2=>?_)
                 obtain ⟨rfl,rfl⟩:=hR
                 simp (disch:=omega) only [A3,Aw,and_self,Af,Ag,amL,sB,sF,↓reduceIte]
                 refine Fi (ls:=[3,7]) rfl ⟨?_,?_,trivial⟩
                 · refine Dz (rem':=[4,5,6,7,8,9]) rfl rfl ?_
                   simp (disch:=omega) only [Af,amL,sF,sG,↓reduceIte]
                   (refine Cc (bd:=300) (by decide) (Ek (m:=103) ⟨by simp (disch:=omega) only [Ag,↓reduceIte],by simp (disch:=omega) only [Ag,sF,↓reduceIte]⟩ hval hli) (fun q hq=>by simp (disch:=omega) only []; exact Ay rfl q (by omega)) (by decide) (D7 _ _) ?_ ; rw [← hw] ; simp (disch:=omega) only [amL])
                   refine D1 (by kernel_rfl) ?_
                   show EL _ _ _ _ [_,_,_,_,_,_] _ _
                   simp (disch:=omega) only [and_self,Af,Ag,A0,amL,amT,sA,sB,sF,↓reduceIte]
                   try (refine A2 [(2,.ptr 2 0),(3,.ptr 3 0),(4,C4),(5,i64 0),(72,avT t),(10,.ptr 10 0)] (by decide) (Dp (b:=b) (bd:=99)) (Ay rfl) (by decide) (fun res os2 hR hcl2 hlv2=>?_) ; obtain ⟨rfl,rfl⟩:=hR ; simp (disch:=omega) only [Bi,Bm,ne_eq,Ac,A3,Aw,Bb,A4,and_self,Af,Ag,A0,Bw,B1,Bl,Bk,B4,Ke,Jm,Lk,Int.sub_zero,Int.toNat_natCast,B9,ld2,B7,amL,amT,sA,sB,sC,sD,sE,sF,sG,sH,sI,sJ,sK,sL,sM,sN,sO,↓reduceIte,reduceCtorEq])
                   try (refine Cc (bd:=300) (by decide) (Ek (m:=103) ⟨by simp (disch:=omega) only [Bi,Bm,ne_eq,Ac,A3,Aw,Bb,A4,and_self,Af,Ag,A0,Bw,B1,Bl,Bk,B4,Ke,Jm,Lk,Int.sub_zero,Int.toNat_natCast,B9,ld2,B7,amL,amT,sA,sB,sC,sD,sE,sF,sG,sH,sI,sJ,sK,sL,sM,sN,sO,↓reduceIte,reduceCtorEq],by simp (disch:=omega) only [Bi,Bm,ne_eq,Ac,A3,Aw,Bb,A4,and_self,Af,Ag,A0,Bw,B1,Bl,Bk,B4,Ke,Jm,Lk,Int.sub_zero,Int.toNat_natCast,B9,ld2,B7,amL,amT,sA,sB,sC,sD,sE,sF,sG,sH,sI,sJ,sK,sL,sM,sN,sO,↓reduceIte,reduceCtorEq]⟩ hval hli) (fun q hq=>by simp (disch:=omega) only [Ac]; exact Ay rfl q (by omega)) (by decide) (D7 _ _) ?_ ; rw [← hw] ; simp (disch:=omega) only [Bi,Bm,ne_eq,Ac,A3,Aw,Bb,A4,and_self,Af,Ag,A0,Bw,B1,Bl,Bk,B4,Ke,Jm,Lk,Int.sub_zero,Int.toNat_natCast,B9,ld2,B7,amL,amT,sA,sB,sC,sD,sE,sF,sG,sH,sI,sJ,sK,sL,sM,sN,sO,↓reduceIte,reduceCtorEq])
                   exact ⟨rfl,by simp (disch:=omega) only [A3,Aw,and_self,Af,sF,↓reduceIte],by simp (disch:=omega) only [Bb,A4,Ag,amL,sF,↓reduceIte] ; try exact congrArg AO.cells hpc⟩
                 · refine Dz (rem':=[3,4,5,6,8,9]) rfl rfl ?_
                   simp (disch:=omega) only [and_self,Ag,amL,amT,sA,sB,sF,↓reduceIte]
                   refine D1 (by kernel_rfl) ?_
                   show EL _ _ _ _ [_,_,_,_,_,_] _ _
                   simp (disch:=omega) only [Af,amL,sF,sG,↓reduceIte]
                   try (refine A2 [(2,.ptr 2 0),(3,.ptr 3 0),(4,C4),(5,i64 0),(72,avT t),(10,.ptr 10 0)] (by decide) (Dp (b:=b) (bd:=99)) (Ay rfl) (by decide) (fun res os2 hR hcl2 hlv2=>?_) ; obtain ⟨rfl,rfl⟩:=hR ; simp (disch:=omega) only [Bi,Bm,ne_eq,Ac,A3,Aw,Bb,A4,and_self,Af,Ag,A0,Bw,B1,Bl,Bk,B4,Ke,Jm,Lk,Int.sub_zero,Int.toNat_natCast,B9,ld2,B7,amL,amT,sA,sB,sC,sD,sE,sF,sG,sH,sI,sJ,sK,sL,sM,sN,sO,↓reduceIte,reduceCtorEq])
                   try (refine Cc (bd:=300) (by decide) (Ek (m:=103) ⟨by simp (disch:=omega) only [Ag,sF,↓reduceIte],by simp (disch:=omega) only [Ag,sF,↓reduceIte]⟩ hval hli) (fun q hq=>by simp (disch:=omega) only []; exact Ay rfl q (by omega)) (by decide) (D7 _ _) ?_ ; rw [← hw] ; simp (disch:=omega) only [Af,Ag,A0,amL,amT,sA,sB,sF,↓reduceIte])
                   exact ⟨rfl,by simp (disch:=omega) only [A3,Aw,and_self,Af,sF,↓reduceIte],by simp (disch:=omega) only [Bb,A4,Ag,amL,sF,↓reduceIte] ; try exact congrArg AO.cells hpc⟩
               · refine Dz (rem':=[1,3,4,5,6,8,9]) rfl rfl ?_
                 simp (disch:=omega) only [and_self,Ag,amL,amT,sA,sB,sF,↓reduceIte]
                 refine D1 (by kernel_rfl) ?_
                 show EL _ _ _ _ [_,_,_,_,_,_,_] _ _
                 simp (disch:=omega) only [Af,amL,sF,sG,↓reduceIte]
                 try (refine A2 [(2,.ptr 2 0),(3,.ptr 3 0),(4,C4),(5,i64 0),(72,avT t),(10,.ptr 10 0)] (by decide) (Dp (b:=b) (bd:=99)) (Ay rfl) (by decide) (fun res os2 hR hcl2 hlv2=>?_) ; obtain ⟨rfl,rfl⟩:=hR ; simp (disch:=omega) only [A3,Aw,and_self,Af,Ag,amL,sB,sF,sG,↓reduceIte])
                 try (refine Cc (bd:=300) (by decide) (Ek (m:=103) ⟨by simp (disch:=omega) only [Ag,↓reduceIte],by simp (disch:=omega) only [Ag,sF,↓reduceIte]⟩ hval hli) (fun q hq=>by simp (disch:=omega) only []; exact Ay rfl q (by omega)) (by decide) (D7 _ _) ?_ ; rw [← hw] ; simp (disch:=omega) only [Af,Ag,A0,amL,amT,sA,sB,sF,↓reduceIte])
                 exact ⟨rfl,by simp (disch:=omega) only [A3,Aw,and_self,Af,sF,↓reduceIte],by simp (disch:=omega) only [Bb,A4,Ag,amL,sF,↓reduceIte] ; try exact congrArg AO.cells hpc⟩
             · refine Dz (rem':=[1,2,3,4,5,6,8,9]) rfl rfl ?_
               simp (disch:=omega) only [and_self,Ag,amL,amT,sA,sB,sF,↓reduceIte]
               refine Fi (ls:=[1,2]) rfl ⟨?_,?_,trivial⟩
               · refine Dz (rem':=[2,3,4,5,6,8,9]) rfl rfl ?_
                 simp (disch:=omega) only [Af,amL,sF,sG,↓reduceIte]
                 refine A2 [(2,.ptr 2 0),(3,.ptr 3 0),(4,C4),(5,i64 0),(10,.ptr 10 0)] (by decide) (Dp (b:=b) (bd:=99)) (Ay rfl) (by decide) (fun res os2 hR hcl2 hlv2=>?_)
                 obtain ⟨rfl,rfl⟩:=hR
                 simp (disch:=omega) only [A3,Aw,and_self,Af,Ag,amL,sB,sF,↓reduceIte]
                 refine D1 (by kernel_rfl) ?_
                 show EL _ _ _ _ [_,_,_,_,_,_,_] _ _
                 simp (disch:=omega) only [Af,Ag,amL,amT,sA,sB,sF,sG,↓reduceIte]
                 try (refine A2 [(2,.ptr 2 0),(3,.ptr 3 0),(4,C4),(5,i64 0),(72,avT t),(10,.ptr 10 0)] (by decide) (Dp (b:=b) (bd:=99)) (Ay rfl) (by decide) (fun res os2 hR hcl2 hlv2=>?_) ; obtain ⟨rfl,rfl⟩:=hR ; simp (disch:=omega) only [Bi,Bm,ne_eq,Ac,A3,Aw,Bb,A4,and_self,Af,Ag,A0,Bw,B1,Bl,Bk,B4,Ke,Jm,Lk,Int.sub_zero,Int.toNat_natCast,B9,ld2,B7,amL,amT,sA,sB,sC,sD,sE,sF,sG,sH,sI,sJ,sK,sL,sM,sN,sO,↓reduceIte,reduceCtorEq])
                 try (refine Cc (bd:=300) (by decide) (Ek (m:=103) ⟨by simp (disch:=omega) only [Ag,↓reduceIte],by simp (disch:=omega) only [Ag,sF,↓reduceIte]⟩ hval hli) (fun q hq=>by simp (disch:=omega) only []; exact Ay rfl q (by omega)) (by decide) (D7 _ _) ?_ ; rw [← hw] ; simp (disch:=omega) only [Af,Ag,A0,amL,amT,sA,sB,sF,↓reduceIte])
                 exact ⟨rfl,by simp (disch:=omega) only [A3,Aw,and_self,Af,sF,↓reduceIte],by simp (disch:=omega) only [Bb,A4,Ag,amL,sF,↓reduceIte] ; try exact congrArg AO.cells hpc⟩
               · refine Dz (rem':=[1,3,4,5,6,8,9]) rfl rfl ?_
                 simp (disch:=omega) only [Af,Ag,amL,amT,sA,sB,sF,↓reduceIte]
                 refine D1 (by kernel_rfl) ?_
                 show EL _ _ _ _ [_,_,_,_,_,_,_] _ _
                 simp (disch:=omega) only [Af,amL,sF,sG,↓reduceIte]
                 try (refine A2 [(2,.ptr 2 0),(3,.ptr 3 0),(4,C4),(5,i64 0),(72,avT t),(10,.ptr 10 0)] (by decide) (Dp (b:=b) (bd:=99)) (Ay rfl) (by decide) (fun res os2 hR hcl2 hlv2=>?_) ; obtain ⟨rfl,rfl⟩:=hR ; simp (disch:=omega) only [A3,Aw,and_self,Af,Ag,amL,sB,sF,sG,↓reduceIte])
                 try (refine Cc (bd:=300) (by decide) (Ek (m:=103) ⟨by simp (disch:=omega) only [Ag,↓reduceIte],by simp (disch:=omega) only [Ag,sF,↓reduceIte]⟩ hval hli) (fun q hq=>by simp (disch:=omega) only []; exact Ay rfl q (by omega)) (by decide) (D7 _ _) ?_ ; rw [← hw] ; simp (disch:=omega) only [Af,Ag,A0,amL,amT,sA,sB,sF,↓reduceIte])
                 exact ⟨rfl,by simp (disch:=omega) only [A3,Aw,and_self,Af,sF,↓reduceIte],by simp (disch:=omega) only [Bb,A4,Ag,amL,sF,↓reduceIte] ; try exact congrArg AO.cells hpc⟩
           · refine Dz (rem':=[0,1,3,4,5,6,7,8,9]) rfl rfl ?_
             simp (disch:=omega) only [Af,Ag,amL,amT,sA,sB,sF,↓reduceIte]
             refine Fi (ls:=[0,7]) rfl ⟨?_,?_,trivial⟩
             · refine Dz (rem':=[1,3,4,5,6,7,8,9]) rfl rfl ?_
               simp (disch:=omega) only [Af,Ag,amL,amT,sA,sB,sF,↓reduceIte]
               refine Fi (ls:=[1,7]) rfl ⟨?_,?_,trivial⟩
               · refine Dz (rem':=[3,4,5,6,7,8,9]) rfl rfl ?_
                 simp (disch:=omega) only [Af,amL,sG,↓reduceIte]
                 refine A2 [(2,.ptr 2 0),(3,.ptr 3 0),(4,C4),(5,i64 0),(72,avT t)] (by decide) (Dp (b:=b) (bd:=99)) (Ay rfl) (by decide) (fun res os2 hR hcl2 hlv2=>?_)
                 obtain ⟨rfl,rfl⟩:=hR
                 simp (disch:=omega) only [A3,Aw,and_self,Af,Ag,amL,sB,sF,↓reduceIte]
                 refine Fi (ls:=[3,7]) rfl ⟨?_,?_,trivial⟩
                 · refine Dz (rem':=[4,5,6,7,8,9]) rfl rfl ?_
                   simp (disch:=omega) only [Af,amL,sF,sG,↓reduceIte]
                   (refine Cc (bd:=300) (by decide) (Ek (m:=103) ⟨by simp (disch:=omega) only [Ag,↓reduceIte],by simp (disch:=omega) only [Ag,sF,↓reduceIte]⟩ hval hli) (fun q hq=>by simp (disch:=omega) only []; exact Ay rfl q (by omega)) (by decide) (D7 _ _) ?_ ; rw [← hw] ; simp (disch:=omega) only [amL])
                   refine D1 (by kernel_rfl) ?_
                   show EL _ _ _ _ [_,_,_,_,_,_] _ _
                   simp (disch:=omega) only [and_self,Af,Ag,A0,amL,amT,sA,sB,sF,↓reduceIte]
                   try (refine A2 [(2,.ptr 2 0),(3,.ptr 3 0),(4,C4),(5,i64 0),(72,avT t),(10,.ptr 10 0)] (by decide) (Dp (b:=b) (bd:=99)) (Ay rfl) (by decide) (fun res os2 hR hcl2 hlv2=>?_) ; obtain ⟨rfl,rfl⟩:=hR ; simp (disch:=omega) only [Bi,Bm,ne_eq,Ac,A3,Aw,Bb,A4,and_self,Af,Ag,A0,Bw,B1,Bl,Bk,B4,Ke,Jm,Lk,Int.sub_zero,Int.toNat_natCast,B9,ld2,B7,amL,amT,sA,sB,sC,sD,sE,sF,sG,sH,sI,sJ,sK,sL,sM,sN,sO,↓reduceIte,reduceCtorEq])
                   try (refine Cc (bd:=300) (by decide) (Ek (m:=103) ⟨by simp (disch:=omega) only [Bi,Bm,ne_eq,Ac,A3,Aw,Bb,A4,and_self,Af,Ag,A0,Bw,B1,Bl,Bk,B4,Ke,Jm,Lk,Int.sub_zero,Int.toNat_natCast,B9,ld2,B7,amL,amT,sA,sB,sC,sD,sE,sF,sG,sH,sI,sJ,sK,sL,sM,sN,sO,↓reduceIte,reduceCtorEq],by simp (disch:=omega) only [Bi,Bm,ne_eq,Ac,A3,Aw,Bb,A4,and_self,Af,Ag,A0,Bw,B1,Bl,Bk,B4,Ke,Jm,Lk,Int.sub_zero,Int.toNat_natCast,B9,ld2,B7,amL,amT,sA,sB,sC,sD,sE,sF,sG,sH,sI,sJ,sK,sL,sM,sN,sO,↓reduceIte,reduceCtorEq]⟩ hval hli) (fun q hq=>by simp (disch:=omega) only [Ac]; exact Ay rfl q (by omega)) (by decide) (D7 _ _) ?_ ; rw [← hw] ; simp (disch:=omega) only [Bi,Bm,ne_eq,Ac,A3,Aw,Bb,A4,and_self,Af,Ag,A0,Bw,B1,Bl,Bk,B4,Ke,Jm,Lk,Int.sub_zero,Int.toNat_natCast,B9,ld2,B7,amL,amT,sA,sB,sC,sD,sE,sF,sG,sH,sI,sJ,sK,sL,sM,sN,sO,↓reduceIte,reduceCtorEq])
                   exact ⟨rfl,by simp (disch:=omega) only [A3,Aw,and_self,Af,sF,↓reduceIte],by simp (disch:=omega) only [Bb,A4,Ag,amL,sF,↓reduceIte] ; try exact congrArg AO.cells hpc⟩
                 · refine Dz (rem':=[3,4,5,6,8,9]) rfl rfl ?_
                   simp (disch:=omega) only [and_self,Ag,amL,amT,sA,sB,sF,↓reduceIte]
                   refine D1 (by kernel_rfl) ?_
                   show EL _ _ _ _ [_,_,_,_,_,_] _ _
                   simp (disch:=omega) only [Af,amL,sF,sG,↓reduceIte]
                   try (refine A2 [(2,.ptr 2 0),(3,.ptr 3 0),(4,C4),(5,i64 0),(72,avT t),(10,.ptr 10 0)] (by decide) (Dp (b:=b) (bd:=99)) (Ay rfl) (by decide) (fun res os2 hR hcl2 hlv2=>?_) ; obtain ⟨rfl,rfl⟩:=hR ; simp (disch:=omega) only [Bi,Bm,ne_eq,Ac,A3,Aw,Bb,A4,and_self,Af,Ag,A0,Bw,B1,Bl,Bk,B4,Ke,Jm,Lk,Int.sub_zero,Int.toNat_natCast,B9,ld2,B7,amL,amT,sA,sB,sC,sD,sE,sF,sG,sH,sI,sJ,sK,sL,sM,sN,sO,↓reduceIte,reduceCtorEq])
                   try (refine Cc (bd:=300) (by decide) (Ek (m:=103) ⟨by simp (disch:=omega) only [Ag,sF,↓reduceIte],by simp (disch:=omega) only [Ag,sF,↓reduceIte]⟩ hval hli) (fun q hq=>by simp (disch:=omega) only []; exact Ay rfl q (by omega)) (by decide) (D7 _ _) ?_ ; rw [← hw] ; simp (disch:=omega) only [Af,Ag,A0,amL,amT,sA,sB,sF,↓reduceIte])
                   exact ⟨rfl,by simp (disch:=omega) only [A3,Aw,and_self,Af,sF,↓reduceIte],by simp (disch:=omega) only [Bb,A4,Ag,amL,sF,↓reduceIte] ; try exact congrArg AO.cells hpc⟩
               · refine Dz (rem':=[1,3,4,5,6,8,9]) rfl rfl ?_
                 simp (disch:=omega) only [and_self,Ag,amL,amT,sA,sB,sF,↓reduceIte]
                 refine D1 (by kernel_rfl) ?_
                 show EL _ _ _ _ [_,_,_,_,_,_,_] _ _
                 simp (disch:=omega) only [Af,amL,sF,sG,↓reduceIte]
                 try (refine A2 [(2,.ptr 2 0),(3,.ptr 3 0),(4,C4),(5,i64 0),(72,avT t),(10,.ptr 10 0)] (by decide) (Dp (b:=b) (bd:=99)) (Ay rfl) (by decide) (fun res os2 hR hcl2 hlv2=>?_) ; obtain ⟨rfl,rfl⟩:=hR ; simp (disch:=omega) only [A3,Aw,and_self,Af,Ag,amL,sB,sF,sG,↓reduceIte])
                 try (refine Cc (bd:=300) (by decide) (Ek (m:=103) ⟨by simp (disch:=omega) only [Ag,↓reduceIte],by simp (disch:=omega) only [Ag,sF,↓reduceIte]⟩ hval hli) (fun q hq=>by simp (disch:=omega) only []; exact Ay rfl q (by omega)) (by decide) (D7 _ _) ?_ ; rw [← hw] ; simp (disch:=omega) only [Af,Ag,A0,amL,amT,sA,sB,sF,↓reduceIte])
                 exact ⟨rfl,by simp (disch:=omega) only [A3,Aw,and_self,Af,sF,↓reduceIte],by simp (disch:=omega) only [Bb,A4,Ag,amL,sF,↓reduceIte] ; try exact congrArg AO.cells hpc⟩
             · refine Dz (rem':=[0,1,3,4,5,6,8,9]) rfl rfl ?_
               simp (disch:=omega) only [and_self,Ag,amL,amT,sA,sB,sF,↓reduceIte]
               refine D1 (by kernel_rfl) ?_
               show EL _ _ _ _ [_,_,_,_,_,_,_,_] _ _
               simp (disch:=omega) only [Af,Ag,amL,amT,sA,sB,sF,sG,↓reduceIte]
               try (refine A2 [(2,.ptr 2 0),(3,.ptr 3 0),(4,C4),(5,i64 0),(72,avT t),(10,.ptr 10 0)] (by decide) (Dp (b:=b) (bd:=99)) (Ay rfl) (by decide) (fun res os2 hR hcl2 hlv2=>?_) ; obtain ⟨rfl,rfl⟩:=hR ; simp (disch:=omega) only [A3,Aw,and_self,Af,Ag,amL,sB,sF,sG,↓reduceIte])
               try (refine Cc (bd:=300) (by decide) (Ek (m:=103) ⟨by simp (disch:=omega) only [Ag,↓reduceIte],by simp (disch:=omega) only [Ag,sF,↓reduceIte]⟩ hval hli) (fun q hq=>by simp (disch:=omega) only []; exact Ay rfl q (by omega)) (by decide) (D7 _ _) ?_ ; rw [← hw] ; simp (disch:=omega) only [Af,Ag,A0,amL,amT,sA,sB,sF,↓reduceIte])
               exact ⟨rfl,by simp (disch:=omega) only [A3,Aw,and_self,Af,sF,↓reduceIte],by simp (disch:=omega) only [Bb,A4,Ag,amL,sF,↓reduceIte] ; try exact congrArg AO.cells hpc⟩
           · refine Dz (rem':=[0,1,2,3,4,5,6,8,9]) rfl rfl ?_
             simp (disch:=omega) only [and_self,Ag,amL,amT,sA,sB,sF,↓reduceIte]
             refine Fi (ls:=[0,2]) rfl ⟨?_,?_,trivial⟩
             · refine Dz (rem':=[1,2,3,4,5,6,8,9]) rfl rfl ?_
               simp (disch:=omega) only [Af,Ag,amL,amT,sA,sB,sF,↓reduceIte]
               refine Fi (ls:=[1,2]) rfl ⟨?_,?_,trivial⟩
               · refine Dz (rem':=[2,3,4,5,6,8,9]) rfl rfl ?_
                 simp (disch:=omega) only [Af,amL,sG,↓reduceIte]
                 refine A2 [(2,.ptr 2 0),(3,.ptr 3 0),(4,C4),(5,i64 0),(10,.ptr 10 0)] (by decide) (Dp (b:=b) (bd:=99)) (Ay rfl) (by decide) (fun res os2 hR hcl2 hlv2=>?_)
                 obtain ⟨rfl,rfl⟩:=hR
                 simp (disch:=omega) only [A3,Aw,and_self,Af,Ag,amL,sB,sF,↓reduceIte]
                 refine D1 (by kernel_rfl) ?_
                 show EL _ _ _ _ [_,_,_,_,_,_,_] _ _
                 simp (disch:=omega) only [Af,Ag,amL,amT,sA,sB,sF,sG,↓reduceIte]
                 try (refine A2 [(2,.ptr 2 0),(3,.ptr 3 0),(4,C4),(5,i64 0),(72,avT t),(10,.ptr 10 0)] (by decide) (Dp (b:=b) (bd:=99)) (Ay rfl) (by decide) (fun res os2 hR hcl2 hlv2=>?_) ; obtain ⟨rfl,rfl⟩:=hR ; simp (disch:=omega) only [Bi,Bm,ne_eq,Ac,A3,Aw,Bb,A4,and_self,Af,Ag,A0,Bw,B1,Bl,Bk,B4,Ke,Jm,Lk,Int.sub_zero,Int.toNat_natCast,B9,ld2,B7,amL,amT,sA,sB,sC,sD,sE,sF,sG,sH,sI,sJ,sK,sL,sM,sN,sO,↓reduceIte,reduceCtorEq])
                 try (refine Cc (bd:=300) (by decide) (Ek (m:=103) ⟨by simp (disch:=omega) only [Ag,↓reduceIte],by simp (disch:=omega) only [Ag,sF,↓reduceIte]⟩ hval hli) (fun q hq=>by simp (disch:=omega) only []; exact Ay rfl q (by omega)) (by decide) (D7 _ _) ?_ ; rw [← hw] ; simp (disch:=omega) only [Af,Ag,A0,amL,amT,sA,sB,sF,↓reduceIte])
                 exact ⟨rfl,by simp (disch:=omega) only [A3,Aw,and_self,Af,sF,↓reduceIte],by simp (disch:=omega) only [Bb,A4,Ag,amL,sF,↓reduceIte] ; try exact congrArg AO.cells hpc⟩
               · refine Dz (rem':=[1,3,4,5,6,8,9]) rfl rfl ?_
                 simp (disch:=omega) only [Af,Ag,amL,amT,sA,sB,sF,↓reduceIte]
                 refine D1 (by kernel_rfl) ?_
                 show EL _ _ _ _ [_,_,_,_,_,_,_] _ _
                 simp (disch:=omega) only [Af,amL,sF,sG,↓reduceIte]
                 try (refine A2 [(2,.ptr 2 0),(3,.ptr 3 0),(4,C4),(5,i64 0),(72,avT t),(10,.ptr 10 0)] (by decide) (Dp (b:=b) (bd:=99)) (Ay rfl) (by decide) (fun res os2 hR hcl2 hlv2=>?_) ; obtain ⟨rfl,rfl⟩:=hR ; simp (disch:=omega) only [A3,Aw,and_self,Af,Ag,amL,sB,sF,sG,↓reduceIte])
                 try (refine Cc (bd:=300) (by decide) (Ek (m:=103) ⟨by simp (disch:=omega) only [Ag,↓reduceIte],by simp (disch:=omega) only [Ag,sF,↓reduceIte]⟩ hval hli) (fun q hq=>by simp (disch:=omega) only []; exact Ay rfl q (by omega)) (by decide) (D7 _ _) ?_ ; rw [← hw] ; simp (disch:=omega) only [Af,Ag,A0,amL,amT,sA,sB,sF,↓reduceIte])
                 exact ⟨rfl,by simp (disch:=omega) only [A3,Aw,and_self,Af,sF,↓reduceIte],by simp (disch:=omega) only [Bb,A4,Ag,amL,sF,↓reduceIte] ; try exact congrArg AO.cells hpc⟩
             · refine Dz (rem':=[0,1,3,4,5,6,8,9]) rfl rfl ?_
               simp (disch:=omega) only [Af,Ag,amL,amT,sA,sB,sF,↓reduceIte]
               refine D1 (by kernel_rfl) ?_
               show EL _ _ _ _ [_,_,_,_,_,_,_,_] _ _
               simp (disch:=omega) only [Af,Ag,amL,amT,sA,sB,sF,sG,↓reduceIte]
               try (refine A2 [(2,.ptr 2 0),(3,.ptr 3 0),(4,C4),(5,i64 0),(72,avT t),(10,.ptr 10 0)] (by decide) (Dp (b:=b) (bd:=99)) (Ay rfl) (by decide) (fun res os2 hR hcl2 hlv2=>?_) ; obtain ⟨rfl,rfl⟩:=hR ; simp (disch:=omega) only [A3,Aw,and_self,Af,Ag,amL,sB,sF,sG,↓reduceIte])
               try (refine Cc (bd:=300) (by decide) (Ek (m:=103) ⟨by simp (disch:=omega) only [Ag,↓reduceIte],by simp (disch:=omega) only [Ag,sF,↓reduceIte]⟩ hval hli) (fun q hq=>by simp (disch:=omega) only []; exact Ay rfl q (by omega)) (by decide) (D7 _ _) ?_ ; rw [← hw] ; simp (disch:=omega) only [Af,Ag,A0,amL,amT,sA,sB,sF,↓reduceIte])
               exact ⟨rfl,by simp (disch:=omega) only [A3,Aw,and_self,Af,sF,↓reduceIte],by simp (disch:=omega) only [Bb,A4,Ag,amL,sF,↓reduceIte] ; try exact congrArg AO.cells hpc⟩
         refine hK19 _ ?_
         refine Ab fun K20 hK20=>?_
         refine Ab fun K21 hK21=>?_
         refine Ah ?_
         simp (disch:=omega) only [Af,amL,sA,sF,↓reduceIte]
         refine hK21 _ ?_
         refine Al rfl (fun h=>?_) (fun h=>?_)
         ·first
          | exact Bool.noConfusion h
          |skip
           try simp only [Bool.not_eq_true'] at h
           refine Ab fun K22 hK22=>?_
           refine Ah ?_
           simp (disch:=omega) only [amL,sA]
           refine hK22 _ ?_
           refine Aj ?_
           try simp (disch:=omega) only [Af,amL,sF,↓reduceIte]
           all_goals first | (rw [Dl,if_neg (by assumption)]; done) | (have e9:k=b.vs.length:=(by omega) ; rw [Dl,if_pos hf0,if_pos hli,if_pos hbt,List.take_of_length_le (by simp ; omega),e9,hw] ; done) | (rw [Dl,if_pos hf0,if_pos hli,if_neg (by simpa using h)]; done) | (rw [Dl,if_pos (by omega),if_neg (fun e=>by have:=Dk e; omega)]; done) | (rw [Dl,if_pos (by omega),if_neg (fun e=>by have:=Kn e (k:=k) (by omega); simp_all)]; done) | trace_state
         ·first
          | exact Bool.noConfusion h
          |skip
           try simp only [Bool.not_eq_false'] at h
           refine Am ?_
           refine hK20 _ ?_
           refine Ab fun K23 hK23=>?_
           refine Ah ?_
           simp (disch:=omega) only [amL,sA]
           refine hK23 _ ?_
           refine Ab fun K24 hK24=>?_
           refine Ab fun K25 hK25=>?_
           refine Ah ?_
           have hbt:(Md b t).2=true:=by simpa using h
           have hsm:=(hwo hbt).small
           have hv4:=hval.nv
           simp (disch:=omega) only [and_self,Af,Ag,Bw,B1,Bl,Bk,B4,Int.sub_zero,Int.toNat_natCast,amL,amT,sA,sF,sH,sK,sL,sN,↓reduceIte,reduceCtorEq]
           refine hK25 _ ?_
           refine Au ?_
           refine Px 96 3 12 (by decide) rfl rfl ?_
           refine Bg (α:=Nat) (fun k=>⟨T [(2,.ptr 2 0),(12,.own 96 k),(81,.csl 10 0 2 b.vs.length),(82,i64 b.vs.length),(83,i64 (k:Int))],O [(2,.cells (cB b)),(10,.cells (cW w)),(96,.arr 3 ((w.take k).map fun l=>Bag (Bby l)))]⟩) (fun k=>b.vs.length - k) (fun k=>k≤b.vs.length) 0 ?_ ?_ (fun k hx26 K26 hK26=>?_)
           · exact Nat.zero_le _
           · refine Dg ?_ ?_ ?_ ?_ <;> (try simp (disch:=omega) only [A3,Aw,Bb,A4,and_self,Af,Ag,amL,sF,sG,↓reduceIte]); all_goals first | rfl | exact Aew _ | trace_state
           have hk:=hx26
           refine Ab fun K27 hK27=>?_
           refine Ah ?_
           simp (disch:=omega) only [Af,amL,amT,sA,sF,↓reduceIte]
           refine hK27 _ ?_
           refine Ab fun K28 hK28=>?_
           refine Al rfl (fun h=>?_) (fun h=>?_)
           ·first
            | exact Bool.noConfusion h
            |skip
             try simp only [decide_eq_true_eq] at h
             refine Am ?_
             refine hK28 _ ?_
             refine Ab fun K29 hK29=>?_
             refine Au ?_
             refine Ab fun K30 hK30=>?_
             refine Ah ?_
             simp (disch:=omega) only [and_self,Af,Ag,A0,Int.toNat_natCast,B9,amL,amT,sA,sB,sE,sF,↓reduceIte]
             refine hK30 _ ?_
             refine Cj (by kernel_rfl) (by kernel_rfl) ?_
             simp (disch:=omega) only [Af,Ag,amL,amT,sA,sB,sF,sG,↓reduceIte,reduceCtorEq]
             repeat' first | (refine Ax (by kernel_rfl) rfl (Yz (w.getD k default) (hsm k)) (by first | exact .inl rfl | exact .inr (.inl rfl)) ?_ ; simp (disch:=omega) only [and_self,Af,Ag,B7,amL,amT,sA,sB,sC,sE,sF,↓reduceIte,reduceCtorEq])
             refine hK29 _ ?_
             refine Ah ?_
             simp (disch:=omega) only [Af,amL,amT,sA,sF,↓reduceIte]
             refine hK26 (k+1) _ ?_ ?_ (Dg ?_ ?_ ?_ ?_)
             all_goals (try simp (disch:=omega) only [A3,Aw,Bb,A4,and_self,Af,Ag,amL,sF,sG,↓reduceIte])
             all_goals first | omega | exact congrArg (AO.arr 3) (Abp default (by omega)) | exact congrArg (AO.arr 3) (Abp default (by omega)).symm | exact Aew _ | trace_state
           ·first
            | exact Bool.noConfusion h
            |skip
             try simp only [decide_eq_false_iff_not] at h
             refine Bq ?_
             refine hK24 _ ?_
             refine Ab fun K31 hK31=>?_
             refine Ah ?_
             simp (disch:=omega) only [Af,amL,sA,sF,↓reduceIte]
             refine hK31 _ ?_
             refine Aj ?_
             try simp (disch:=omega) only [Af,Ag,amL,sF,↓reduceIte]
             all_goals first | (rw [Dl,if_neg (by assumption)]; done) | (have e9:k=b.vs.length:=(by omega) ; rw [Dl,if_pos hf0,if_pos hli,if_pos hbt,List.take_of_length_le (by simp ; omega),e9,hw] ; done) | (rw [Dl,if_pos hf0,if_pos hli,if_neg (by simpa using h)]; done) | (rw [Dl,if_pos (by omega),if_neg (fun e=>by have:=Dk e; omega)]; done) | (rw [Dl,if_pos (by omega),if_neg (fun e=>by have:=Kn e (k:=k) (by omega); simp_all)]; done) | trace_state
section
variable {P:Program} {r:RB} {N:Nat} {K:St→Prop} {st:St}
theorem Af5 {o:Oper} {t u:TypeId} {e:TypeId} {x:Operand} (ho:o.op=.binOp .eql t x (.const (.slice none 0 0)) u) (hd:∀ k,o.dst=some k→k < N) (ht:(Aa P t).k=.sl e) (hx:ev st.t x=C4) (h:K (st.put o.dst (bl true))):B2 P r N o st K:=by
  intro B S θ M w a Q hs
  refine ⟨fun _ _=>trivial,?_⟩
  rw [Oper.semAt_eq _ _ _ (by rw [ho]; intro c h; cases h)]
  have hv:a.eval x=.slice none 0 0:=by
    have hr:=Ao hs x
    rw [hx] at hr
    generalize a.eval x=v at hr
    cases hr with
    | p _ _ hp=>cases hp; rfl
  have hrun:(execOp a.eval o).run P w=.ok (.value (.bool true)) w:=by
    simp only [execOp,ho,hv]
    refine J7 ?_
    simp [Act.eval,eqGuard,binOp,run_equal_slice_nil w t e none 0 0 (D3 ht)]
  rw [hrun]
  exact ⟨_,h,(Adv.put hs hd (.p _ _ (.val _ rfl)) (AV.lives_p _ _)).toM,by cases o.dst <;> rfl⟩
theorem N8 {Q:AEx→St→Prop} {id d0 d1 i:Nat} {t u e ty0 ty1:TypeId} {pos0 pos1:String} {af0 af1:Array Edge} (h0:d0 < N) (h1:d1 < N) (ht:(Aa P t).k=.sl e) (hx:st.t i=C4)
    (h:Q .normal ((st.put (some d0) (st.t i)).put (some d1) (bl true))) :
    AWP P r N (.region id [(⟨some d0,.move (.tmp i),ty0,pos0,af0,none⟩:Oper),⟨some d1,.binOp .eql t (.tmp d0) (.const (.slice none 0 0)) u,ty1,pos1,af1,none⟩].toArray false) st Q:=by
  refine C2 (AL.step (Fg ?_))
  rw [Agd]
  refine ⟨by simpa using h0,AL.step (Af5 rfl (fun k hk=>by cases hk; exact h1) ht (x:=.tmp d0) ?_ (AL.nil h))⟩
  show (st.put (some d0) (st.t i)).t d0=C4
  have:(st.put (some d0) (st.t i)).t d0=st.t i:=by simp [St.put,upd]
  rw [this]; exact hx
end
theorem Anz (es:List (List PV)) (hk:(es.all fun c=>decide (c.length=1))=true) (hv:(es.all fun e=>e.all PV.isVal)=true) (hl:es.length < 1000000):H7 Tryz.prog 131 [.p (.sl es)] 1 es:=by
  refine K0 (v:=[]) (q:=[]) (N:=8) (i:=2) Tryz.func131 rfl rfl rfl rfl ?_
  refine Ab fun K1 hK1=>?_
  refine Ah ?_
  simp (disch:=omega) only [amL,sA]
  refine hK1 _ ?_
  refine Ab fun K2 hK2=>?_
  refine Ab fun K3 hK3=>?_
  refine Q9 (e:=3) (by decide) (by decide) (by simp only [amT]) rfl (fun b hb=>?_)
  simp (disch:=omega) only [amL,↓reduceIte,reduceCtorEq]
  refine hK3 _ ?_
  refine Al rfl (fun h=>?_) (fun h=>?_)
  ·first
   | exact Bool.noConfusion h
   |skip
    try simp only [Bool.not_eq_true',decide_eq_true_eq,decide_eq_false_iff_not,Bool.and_eq_true,Bool.not_eq_false',Bool.not_not,decide_not,Bool.not_true,Bool.not_false] at h
    refine Ab fun K4 hK4=>?_
    refine Ah ?_
    simp (disch:=omega) only [amL,sA]
    refine hK4 _ ?_
    refine Aj ?_
    try simp (disch:=omega) only [D6,amL,↓reduceIte]
    first | ((have e:es=[]:=by have:=hb h; simpa using this); subst e; rfl) | exact J4 rfl (by simp) hv | trace_state
  ·first
   | exact Bool.noConfusion h
   |skip
    try simp only [Bool.not_eq_true',decide_eq_true_eq,decide_eq_false_iff_not,Bool.and_eq_true,Bool.not_eq_false',Bool.not_not,decide_not,Bool.not_true,Bool.not_false] at h
    refine Am ?_
    refine hK2 _ ?_
    refine Ab fun K5 hK5=>?_
    refine Ah ?_
    simp (disch:=omega) only [hk,amL,amT,sA,sF,↓reduceIte,reduceCtorEq]
    refine hK5 _ ?_
    refine Aj ?_
    try simp (disch:=omega) only [D6,amL,↓reduceIte]
    first | ((have e:es=[]:=by have:=hb h; simpa using this); subst e; rfl) | exact J4 rfl (by simp) hv | trace_state
theorem Acp (es:List (List PV)) (hk:(es.all fun c=>decide (c.length=5))=true) (hv:(es.all fun e=>e.all PV.isVal)=true) (hl:es.length < 1000000):H7 Tryz.prog 87 [.p (.sl es)] 5 es:=by
  refine K0 (v:=[]) (q:=[]) (N:=8) (i:=2) Tryz.func87 rfl rfl rfl rfl ?_
  refine Ab fun K1 hK1=>?_
  refine Ah ?_
  simp (disch:=omega) only [amL,sA]
  refine hK1 _ ?_
  refine Ab fun K2 hK2=>?_
  refine Ab fun K3 hK3=>?_
  refine Q9 (e:=135) (by decide) (by decide) (by simp only [amT]) rfl (fun b hb=>?_)
  simp (disch:=omega) only [amL,↓reduceIte,reduceCtorEq]
  refine hK3 _ ?_
  refine Al rfl (fun h=>?_) (fun h=>?_)
  ·first
   | exact Bool.noConfusion h
   |skip
    try simp only [Bool.not_eq_true',decide_eq_true_eq,decide_eq_false_iff_not,Bool.and_eq_true,Bool.not_eq_false',Bool.not_not,decide_not,Bool.not_true,Bool.not_false] at h
    refine Ab fun K4 hK4=>?_
    refine Ah ?_
    simp (disch:=omega) only [amL,sA]
    refine hK4 _ ?_
    refine Aj ?_
    try simp (disch:=omega) only [D6,amL,↓reduceIte]
    first | ((have e:es=[]:=by have:=hb h; simpa using this); subst e; rfl) | exact J4 rfl (by simp) hv | trace_state
  ·first
   | exact Bool.noConfusion h
   |skip
    try simp only [Bool.not_eq_true',decide_eq_true_eq,decide_eq_false_iff_not,Bool.and_eq_true,Bool.not_eq_false',Bool.not_not,decide_not,Bool.not_true,Bool.not_false] at h
    refine Am ?_
    refine hK2 _ ?_
    refine Ab fun K5 hK5=>?_
    refine Ah ?_
    simp (disch:=omega) only [hk,amL,amT,sA,sB,sF,↓reduceIte,reduceCtorEq]
    refine hK5 _ ?_
    refine Aj ?_
    try simp (disch:=omega) only [D6,amL,↓reduceIte]
    first | ((have e:es=[]:=by have:=hb h; simpa using this); subst e; rfl) | exact J4 rfl (by simp) hv | trace_state
theorem Ai7:H7 Tryz.prog 131 [C4] 1 []:=by
  refine K0 (v:=[]) (q:=[]) (N:=8) (i:=2) Tryz.func131 rfl rfl rfl rfl ?_
  refine Ab fun K1 hK1=>?_
  refine Ah ?_
  simp (disch:=omega) only [amL,sA]
  refine hK1 _ ?_
  refine Ab fun K2 hK2=>?_
  refine Ab fun K3 hK3=>?_
  refine N8 (e:=3) (by decide) (by decide) (by simp only [amT]) rfl ?_
  simp (disch:=omega) only [amL,↓reduceIte,reduceCtorEq]
  refine hK3 _ ?_
  refine Al rfl (fun h=>?_) (fun h=>?_)
  ·first
   | exact Bool.noConfusion h
   |skip
    try simp only [] at h
    refine Ab fun K4 hK4=>?_
    refine Ah ?_
    simp (disch:=omega) only [amL,sA]
    refine hK4 _ ?_
    refine Aj ?_
    try simp (disch:=omega) only [D6,amL,↓reduceIte]
    first | rfl | trace_state
  ·first
   | exact Bool.noConfusion h
   |skip
    try simp only [Bool.not_eq_true',decide_eq_true_eq,decide_eq_false_iff_not,Bool.and_eq_true,Bool.not_eq_false',Bool.not_not,decide_not,Bool.not_true,Bool.not_false] at h
    refine Am ?_
    refine hK2 _ ?_
    refine Ab fun K5 hK5=>?_
    refine Ah ?_
    simp (disch:=omega) only [Jw,D6,amL,amT,sA,sB,sC,sD,sE,sF,sG,sH,sI,sJ,sK,sL,sM,sN,sO,↓reduceIte,reduceCtorEq]
    refine hK5 _ ?_
    refine Aj ?_
    try simp (disch:=omega) only [Jw,D6,amL,amT,sA,sB,sC,sD,sE,sF,sG,sH,sI,sJ,sK,sL,sM,sN,sO,↓reduceIte,reduceCtorEq]
    first | rfl | trace_state
theorem Akh:H7 Tryz.prog 87 [C4] 5 []:=by
  refine K0 (v:=[]) (q:=[]) (N:=8) (i:=2) Tryz.func87 rfl rfl rfl rfl ?_
  refine Ab fun K1 hK1=>?_
  refine Ah ?_
  simp (disch:=omega) only [amL,sA]
  refine hK1 _ ?_
  refine Ab fun K2 hK2=>?_
  refine Ab fun K3 hK3=>?_
  refine N8 (e:=135) (by decide) (by decide) (by simp only [amT]) rfl ?_
  simp (disch:=omega) only [amL,↓reduceIte,reduceCtorEq]
  refine hK3 _ ?_
  refine Al rfl (fun h=>?_) (fun h=>?_)
  ·first
   | exact Bool.noConfusion h
   |skip
    try simp only [] at h
    refine Ab fun K4 hK4=>?_
    refine Ah ?_
    simp (disch:=omega) only [amL,sA]
    refine hK4 _ ?_
    refine Aj ?_
    try simp (disch:=omega) only [D6,amL,↓reduceIte]
    first | rfl | trace_state
  ·first
   | exact Bool.noConfusion h
   |skip
    try simp only [Bool.not_eq_true',decide_eq_true_eq,decide_eq_false_iff_not,Bool.and_eq_true,Bool.not_eq_false',Bool.not_not,decide_not,Bool.not_true,Bool.not_false] at h
    refine Am ?_
    refine hK2 _ ?_
    refine Ab fun K5 hK5=>?_
    refine Ah ?_
    simp (disch:=omega) only [Jw,D6,amL,amT,sA,sB,sC,sD,sE,sF,sG,sH,sI,sJ,sK,sL,sM,sN,sO,↓reduceIte,reduceCtorEq]
    refine hK5 _ ?_
    refine Aj ?_
    try simp (disch:=omega) only [Jw,D6,amL,amT,sA,sB,sC,sD,sE,sF,sG,sH,sI,sJ,sK,sL,sM,sN,sO,↓reduceIte,reduceCtorEq]
    first | rfl | trace_state
end AM.Try
end
/- What closed runs go by: the types, the functions that share objects, slices.Clone, the map, equality. -/
section
namespace AM.Try
open Go AM AM.Wort Go.Proofs
set_option maxRecDepth 100000
def Axo:List (Option TI)→Nat→Option TI
 | [],_=>none
 | x :: _,0=>x
 | _ :: l,i+1=>Axo l i
def Bde:List (Option TI):=[none,some ⟨.other,1,8,[.nilFunc]⟩,some ⟨.int .i64,1,8,[.int .i64 0]⟩,some ⟨.int .i64,1,8,[.int .i64 0]⟩,some ⟨.bool,1,1,[.bool false]⟩,some ⟨.int .u8,1,1,[.int .u8 0]⟩,some ⟨.int .u8,1,1,[.int .u8 0]⟩,some ⟨.struct [(0,2),(1,3),(2,4),(3,6)],4,24,[.int .i64 0,.int .i64 0,.bool false,.int .u8 0]⟩,some ⟨.struct [(0,2),(1,3),(2,4),(3,6)],4,24,[.int .i64 0,.int .i64 0,.bool false,.int .u8 0]⟩,none,none,none,some ⟨.int .u64,1,8,[.int .u64 0]⟩,none,none,some ⟨.other,1,8,[.pointer none]⟩,some ⟨.other,1,8,[.pointer none]⟩,some ⟨.other,1,8,[.pointer none]⟩,some ⟨.struct [(0,17)],1,8,[.pointer none]⟩,some ⟨.struct [(0,17)],1,8,[.pointer none]⟩,some ⟨.other,1,16,[.nilIface]⟩,some ⟨.int .i32,1,4,[.int .i32 0]⟩,some ⟨.sl 92,1,24,[.slice none 0 0]⟩,some ⟨.sl 94,1,24,[.slice none 0 0]⟩,some ⟨.struct [(0,22),(1,23)],2,48,[.slice none 0 0,.slice none 0 0]⟩,some ⟨.struct [(0,22),(1,23)],2,48,[.slice none 0 0,.slice none 0 0]⟩,some ⟨.sl 3,1,24,[.slice none 0 0]⟩,some ⟨.struct [(0,26),(1,26),(2,26)],3,72,[.slice none 0 0,.slice none 0 0,.slice none 0 0]⟩,some ⟨.struct [(0,26),(1,26),(2,26)],3,72,[.slice none 0 0,.slice none 0 0,.slice none 0 0]⟩,some ⟨.other,1,8,[.nilFunc]⟩,some ⟨.other,1,8,[.nilFunc]⟩,some ⟨.sl 90,1,24,[.slice none 0 0]⟩,some ⟨.int .i64,1,8,[.int .i64 0]⟩,none,some ⟨.other,1,8,[.nilFunc]⟩,some ⟨.sl 128,1,24,[.slice none 0 0]⟩,some ⟨.sl 135,1,24,[.slice none 0 0]⟩,some ⟨.struct [(0,35),(1,36)],2,48,[.slice none 0 0,.slice none 0 0]⟩,some ⟨.struct [(0,35),(1,36)],2,48,[.slice none 0 0,.slice none 0 0]⟩,some ⟨.other,1,8,[.nilFunc]⟩,some ⟨.struct [(0,26),(1,26),(2,26)],3,72,[.slice none 0 0,.slice none 0 0,.slice none 0 0]⟩,some ⟨.other,1,8,[.nilFunc]⟩,some ⟨.other,1,8,[.nilFunc]⟩,some ⟨.other,1,8,[.nilFunc]⟩,some ⟨.sl 137,1,24,[.slice none 0 0]⟩,none,some ⟨.other,1,8,[.nilFunc]⟩,some ⟨.other,1,8,[.nilFunc]⟩,some ⟨.other,1,8,[.nilFunc]⟩,some ⟨.sl 60,1,24,[.slice none 0 0]⟩,none,some ⟨.other,1,8,[.nilFunc]⟩,some ⟨.sl 44,1,24,[.slice none 0 0]⟩,some ⟨.other,1,8,[.nilFunc]⟩,some ⟨.struct [(0,3),(1,3)],2,16,[.int .i64 0,.int .i64 0]⟩,some ⟨.struct [(0,3),(1,3)],2,16,[.int .i64 0,.int .i64 0]⟩,none,some ⟨.other,1,8,[.nilFunc]⟩,some ⟨.struct [(0,3),(1,3)],2,16,[.int .i64 0,.int .i64 0]⟩,some ⟨.struct [(0,58),(2,58),(4,58)],6,48,[.int .i64 0,.int .i64 0,.int .i64 0,.int .i64 0,.int .i64 0,.int .i64 0]⟩,some ⟨.struct [(0,58),(2,58),(4,58)],6,48,[.int .i64 0,.int .i64 0,.int .i64 0,.int .i64 0,.int .i64 0,.int .i64 0]⟩,some ⟨.other,1,8,[.nilFunc]⟩,some ⟨.other,1,8,[.nilFunc]⟩,some ⟨.sl 70,1,24,[.slice none 0 0]⟩,none,some ⟨.other,1,8,[.nilFunc]⟩,some ⟨.sl 103,1,24,[.slice none 0 0]⟩,some ⟨.other,1,8,[.nilFunc]⟩,some ⟨.other,1,8,[.nilFunc]⟩,some ⟨.struct [(0,3),(1,55),(3,55)],5,40,[.int .i64 0,.int .i64 0,.int .i64 0,.int .i64 0,.int .i64 0]⟩,some ⟨.struct [(0,3),(1,55),(3,55)],5,40,[.int .i64 0,.int .i64 0,.int .i64 0,.int .i64 0,.int .i64 0]⟩,some ⟨.other,1,8,[.nilFunc]⟩,some ⟨.other,1,8,[.nilFunc]⟩,some ⟨.other,1,8,[.nilFunc]⟩,none,some ⟨.other,1,8,[.nilFunc]⟩,some ⟨.other,1,8,[.nilFunc]⟩,some ⟨.other,1,8,[.nilFunc]⟩,some ⟨.other,1,8,[.nilFunc]⟩,some ⟨.other,1,8,[.nilFunc]⟩,some ⟨.other,1,8,[.nilFunc]⟩,some ⟨.other,1,8,[.nilFunc]⟩,some ⟨.other,1,8,[.nilFunc]⟩,some ⟨.int .u16,1,2,[.int .u16 0]⟩,none,some ⟨.other,1,8,[.nilFunc]⟩,some ⟨.other,1,8,[.nilFunc]⟩,some ⟨.other,1,8,[.nilFunc]⟩,some ⟨.other,1,8,[.nilFunc]⟩,some ⟨.struct [(0,3),(1,3),(2,3)],3,24,[.int .i64 0,.int .i64 0,.int .i64 0]⟩,some ⟨.struct [(0,3),(1,3),(2,3)],3,24,[.int .i64 0,.int .i64 0,.int .i64 0]⟩,some ⟨.struct [(0,55),(2,55),(4,3)],5,40,[.int .i64 0,.int .i64 0,.int .i64 0,.int .i64 0,.int .i64 0]⟩,some ⟨.struct [(0,55),(2,55),(4,3)],5,40,[.int .i64 0,.int .i64 0,.int .i64 0,.int .i64 0,.int .i64 0]⟩,some ⟨.struct [(0,3),(1,3),(2,3),(3,55)],5,40,[.int .i64 0,.int .i64 0,.int .i64 0,.int .i64 0,.int .i64 0]⟩,some ⟨.struct [(0,3),(1,3),(2,3),(3,55)],5,40,[.int .i64 0,.int .i64 0,.int .i64 0,.int .i64 0,.int .i64 0]⟩,some ⟨.other,1,8,[.nilFunc]⟩,some ⟨.arr 6 4,6,6,[.bool false,.bool false,.bool false,.bool false,.bool false,.bool false]⟩,some ⟨.other,1,8,[.nilFunc]⟩,none,some ⟨.other,1,8,[.nilFunc]⟩,some ⟨.int .u64,1,8,[.int .u64 0]⟩,some ⟨.other,1,8,[.nilFunc]⟩,some ⟨.struct [(0,3),(1,58),(3,58)],5,40,[.int .i64 0,.int .i64 0,.int .i64 0,.int .i64 0,.int .i64 0]⟩,some ⟨.struct [(0,3),(1,58),(3,58)],5,40,[.int .i64 0,.int .i64 0,.int .i64 0,.int .i64 0,.int .i64 0]⟩,some ⟨.other,1,8,[.nilFunc]⟩,some ⟨.other,1,8,[.nilFunc]⟩,some ⟨.other,1,8,[.nilFunc]⟩,some ⟨.other,1,8,[.nilFunc]⟩,some ⟨.other,1,8,[.nilFunc]⟩,some ⟨.other,1,8,[.nilFunc]⟩,none,some ⟨.other,1,8,[.nilFunc]⟩,some ⟨.other,1,8,[.nilFunc]⟩,some ⟨.sl 58,1,24,[.slice none 0 0]⟩,some ⟨.other,1,8,[.nilFunc]⟩,some ⟨.other,1,8,[.nilFunc]⟩,some ⟨.other,1,8,[.nilFunc]⟩,some ⟨.struct [(0,3),(1,3)],2,16,[.int .i64 0,.int .i64 0]⟩,some ⟨.struct [(0,3),(1,3)],2,16,[.int .i64 0,.int .i64 0]⟩,some ⟨.arr 4 118,8,64,[.int .i64 0,.int .i64 0,.int .i64 0,.int .i64 0,.int .i64 0,.int .i64 0,.int .i64 0,.int .i64 0]⟩,some ⟨.arr 4 118,8,64,[.int .i64 0,.int .i64 0,.int .i64 0,.int .i64 0,.int .i64 0,.int .i64 0,.int .i64 0,.int .i64 0]⟩,none,some ⟨.other,1,8,[.pointer none]⟩,some ⟨.other,1,8,[.nilFunc]⟩,some ⟨.other,1,8,[.nilFunc]⟩,some ⟨.sl 118,1,24,[.slice none 0 0]⟩,some ⟨.other,1,8,[.nilFunc]⟩,some ⟨.struct [(0,58),(2,58),(4,3)],5,40,[.int .i64 0,.int .i64 0,.int .i64 0,.int .i64 0,.int .i64 0]⟩,some ⟨.struct [(0,58),(2,58),(4,3)],5,40,[.int .i64 0,.int .i64 0,.int .i64 0,.int .i64 0,.int .i64 0]⟩,some ⟨.other,1,8,[.nilFunc]⟩,some ⟨.other,1,8,[.nilFunc]⟩,some ⟨.other,1,8,[.nilFunc]⟩,some ⟨.other,1,8,[.nilFunc]⟩,some ⟨.other,1,8,[.nilFunc]⟩,some ⟨.struct [(0,3),(1,3),(2,3),(3,58)],5,40,[.int .i64 0,.int .i64 0,.int .i64 0,.int .i64 0,.int .i64 0]⟩,some ⟨.struct [(0,3),(1,3),(2,3),(3,58)],5,40,[.int .i64 0,.int .i64 0,.int .i64 0,.int .i64 0,.int .i64 0]⟩,some ⟨.other,1,8,[.nilFunc]⟩,some ⟨.struct [(0,3),(1,3),(2,3)],3,24,[.int .i64 0,.int .i64 0,.int .i64 0]⟩,some ⟨.other,1,8,[.nilFunc]⟩,some ⟨.other,1,8,[.nilFunc]⟩,some ⟨.other,1,8,[.nilFunc]⟩,some ⟨.other,1,8,[.pointer none]⟩,some ⟨.other,1,8,[.nilFunc]⟩,some ⟨.other,1,8,[.nilFunc]⟩,some ⟨.other,1,8,[.nilFunc]⟩,some ⟨.other,1,8,[.nilFunc]⟩,some ⟨.other,1,8,[.nilFunc]⟩,some ⟨.other,1,8,[.nilFunc]⟩,none,some ⟨.other,1,8,[.nilFunc]⟩,some ⟨.other,1,8,[.nilFunc]⟩,some ⟨.other,1,8,[.nilFunc]⟩,some ⟨.other,1,8,[.nilFunc]⟩,some ⟨.other,1,8,[.nilFunc]⟩,some ⟨.other,1,8,[.nilFunc]⟩,some ⟨.other,1,8,[.nilFunc]⟩,some ⟨.struct [(0,155)],1,8,[.nilFunc]⟩,some ⟨.struct [(0,155)],1,8,[.nilFunc]⟩,some ⟨.arr 3 157,3,24,[.nilFunc,.nilFunc,.nilFunc]⟩,some ⟨.other,1,8,[.nilFunc]⟩,some ⟨.other,1,8,[.pointer none]⟩,none,some ⟨.other,1,8,[.nilFunc]⟩,some ⟨.other,1,8,[.nilFunc]⟩,some ⟨.other,1,8,[.nilFunc]⟩,some ⟨.other,1,8,[.nilFunc]⟩,some ⟨.other,1,8,[.nilFunc]⟩,some ⟨.other,1,8,[.pointer none]⟩,some ⟨.other,1,8,[.nilFunc]⟩,some ⟨.other,1,8,[.nilFunc]⟩,some ⟨.other,1,8,[.nilFunc]⟩,some ⟨.other,1,8,[.nilFunc]⟩,some ⟨.other,1,8,[.nilFunc]⟩,some ⟨.other,1,8,[.nilFunc]⟩,some ⟨.other,1,8,[.nilFunc]⟩,some ⟨.mp 3 4,1,8,[.map none]⟩,some ⟨.sl 26,1,24,[.slice none 0 0]⟩,some ⟨.other,1,8,[.nilFunc]⟩,some ⟨.mp 194 196,1,8,[.map none]⟩,some ⟨.struct [(0,38),(2,178)],3,56,[.slice none 0 0,.slice none 0 0,.map none]⟩,some ⟨.struct [(0,38),(2,178)],3,56,[.slice none 0 0,.slice none 0 0,.map none]⟩,some ⟨.other,1,8,[.nilFunc]⟩,some ⟨.other,1,8,[.nilFunc]⟩,some ⟨.other,1,8,[.nilFunc]⟩,some ⟨.other,1,8,[.nilFunc]⟩,some ⟨.other,1,8,[.nilFunc]⟩,some ⟨.other,1,8,[.nilFunc]⟩,some ⟨.other,1,8,[.nilFunc]⟩,some ⟨.other,1,8,[.nilFunc]⟩,some ⟨.other,1,8,[.nilFunc]⟩,some ⟨.other,1,8,[.nilFunc]⟩,some ⟨.other,1,8,[.nilFunc]⟩,some ⟨.other,1,8,[.nilFunc]⟩,some ⟨.struct [(0,135),(5,3),(6,120)],14,112,[.int .i64 0,.int .i64 0,.int .i64 0,.int .i64 0,.int .i64 0,.int .i64 0,.int .i64 0,.int .i64 0,.int .i64 0,.int .i64 0,.int .i64 0,.int .i64 0,.int .i64 0,.int .i64 0]⟩,some ⟨.struct [(0,135),(5,3),(6,120)],14,112,[.int .i64 0,.int .i64 0,.int .i64 0,.int .i64 0,.int .i64 0,.int .i64 0,.int .i64 0,.int .i64 0,.int .i64 0,.int .i64 0,.int .i64 0,.int .i64 0,.int .i64 0,.int .i64 0]⟩,some ⟨.struct [(0,120),(8,4)],9,72,[.int .i64 0,.int .i64 0,.int .i64 0,.int .i64 0,.int .i64 0,.int .i64 0,.int .i64 0,.int .i64 0,.bool false]⟩,some ⟨.struct [(0,120),(8,4)],9,72,[.int .i64 0,.int .i64 0,.int .i64 0,.int .i64 0,.int .i64 0,.int .i64 0,.int .i64 0,.int .i64 0,.bool false]⟩,none,some ⟨.other,1,8,[.nilFunc]⟩,some ⟨.other,1,8,[.nilFunc]⟩,some ⟨.other,1,8,[.nilFunc]⟩,some ⟨.other,1,8,[.nilFunc]⟩,some ⟨.other,1,8,[.nilFunc]⟩,some ⟨.other,1,8,[.nilFunc]⟩,some ⟨.other,1,8,[.nilFunc]⟩,some ⟨.other,1,8,[.nilFunc]⟩,some ⟨.other,1,8,[.pointer none]⟩,some ⟨.other,1,8,[.nilFunc]⟩,some ⟨.other,1,8,[.nilFunc]⟩,some ⟨.other,1,8,[.nilFunc]⟩,none,none,some ⟨.arr 0 16,0,0,[]⟩,some ⟨.struct [(0,212)],0,0,[]⟩,some ⟨.struct [(0,212)],0,0,[]⟩,some ⟨.int .u32,1,4,[.int .u32 0]⟩,some ⟨.int .u8,1,1,[.int .u8 0]⟩,some ⟨.int .u8,1,1,[.int .u8 0]⟩,some ⟨.other,1,8,[.nilFunc]⟩,some ⟨.other,1,8,[.pointer none]⟩,some ⟨.int .i32,1,4,[.int .i32 0]⟩,some ⟨.int .i32,1,4,[.int .i32 0]⟩,some ⟨.struct [(0,12),(1,12),(2,215),(3,216),(4,5),(5,5),(6,217),(7,218),(8,219),(9,220),(10,221)],11,48,[.int .u64 0,.int .u64 0,.int .u32 0,.int .u8 0,.int .u8 0,.int .u8 0,.int .u8 0,.nilFunc,.pointer none,.int .i32 0,.int .i32 0]⟩,some ⟨.struct [(0,12),(1,12),(2,215),(3,216),(4,5),(5,5),(6,217),(7,218),(8,219),(9,220),(10,221)],11,48,[.int .u64 0,.int .u64 0,.int .u32 0,.int .u8 0,.int .u8 0,.int .u8 0,.int .u8 0,.nilFunc,.pointer none,.int .i32 0,.int .i32 0]⟩,some ⟨.other,1,8,[.pointer none]⟩]
noncomputable def tyX (t:TypeId):TI:=match Axo Bde t with
 | some x=>x
 | none=>Aa Tryz.prog t
def Agy:Nat→List (Option TI)→Prop
 | _,[]=>True
 | i,none :: l=>Agy (i+1) l
 | i,some x :: l=>Aa Tryz.prog i=x∧Agy (i+1) l
theorem Rp:∀ {l:List (Option TI)} {i t:Nat} {x:TI},Agy i l→Axo l t=some x→Aa Tryz.prog (i+t)=x
 | [],_,_,_,_,h=>by cases h
 | none :: l,i,0,_,_,h=>by cases h
 | some y :: l,i,0,x,hk,h=>by cases h; exact hk.1
 | none :: l,i,t+1,x,hk,h=>by have:=Rp (i:=i+1) (t:=t) hk h; rwa [show i+(t+1)=i+1+t by omega]
 | some y :: l,i,t+1,x,hk,h=>by have:=Rp (i:=i+1) (t:=t) hk.2 h; rwa [show i+(t+1)=i+1+t by omega]
theorem Ay6:Agy 0 Bde:=⟨ty1,ty2,ty3,ty4,ty5,ty6,ty7,ty8,Azj,Bak,Bbb,Bcn,Bb8,Bdl,Bck,Bb4,Bda,Az9,Baq,Az3,Azg,Azu,Ba3,Bbm,Bb2,Bbr,Bcv,Bcl,Azq,Ba0,Bb6,Bdm,Bb7,Ba6,Bae,Bbk,Bca,Bcz,Azs,Ba2,Azf,Bai,Bcy,Bdc,Bb9,Bb1,Az4,Bcx,Az6,Bas,Azk,Azt,Bbt,Bcw,Baa,Bdn,Bc6,Bb5,Bdk,Bch,Bad,Bc2,Bba,Azl,Bbs,Bab,Bao,Az2,Bdj,Bap,Baz,Bcs,Bc0,Azo,Bbv,Azn,Bah,Bct,Bbn,Bbc,Bcj,Azi,Bax,Bcc,Ba1,Az1,As9,Ats,Atc,Asu,Aux,Av6,Auw,Aua,Awl,Aur,Aup,Asz,Aui,Aws,Atr,Atp,Av1,Awf,Au1,Ahv,Avv,Avw,Aty,Au8,Av9,Avl,Ava,Atb,Av8,As2,At2,Awe,Aum,At3,Aud,Atj,Avf,Atl,Auq,Av5,Awc,Awd,Avh,Awp,Aub,As7,Av3,Atg,Auz,Av0,Awq,Avq,Atv,Avs,At7,Ata,Av7,Avj,Atw,Asv,Atf,Au9,Ati,Ave,Atn,Au7,Awm,Avd,Avk,Atq,Au4,As1,At9,Awh,Awk,Att,Auc,Avm,Au0,Awv,Auj,Atd,Awa,Atx,Aue,Avy,At5,Atz,Avb,Aus,As3,Avr,Auf,Ath,Au5,Atu,Atk,As6,Awo,As0,Au3,Avg,Aww,At6,Avz,At8,Awt,Auh,As5,Awj,Av2,Av4,Auu,Asw,Auy,Auo,Ate,Avu,trivial⟩
theorem Ax6 (t:TypeId):tyX t=Aa Tryz.prog t:=by
 unfold tyX
 split
 ·rename_i x h; have:=Rp Ay6 h; rw [Nat.zero_add] at this; exact this.symm
 ·rfl
def knX (f:Nat) (xs:List AV):Option (Nat × List (List PV)):=match eqN f 131 with
 | true=>go 1 xs
 | false=>match eqN f 87 with
  | true=>go 5 xs
  | false=>none
 where go (k:Nat):List AV→Option (Nat × List (List PV))
 | [.p (.sl es)]=>match (es.all fun c=>eqN c.length k)&&((es.all fun e=>e.all PV.isVal)&&ltN es.length 1000000) with
  | true=>some (k,es)
  | false=>none
 | [.p (.val (.slice none 0 0))]=>some (k,[])
 | _=>none
theorem Ayv (f:Nat) (xs:List AV) (k:Nat) (es:List (List PV)) (h:knX f xs=some (k,es)):H7 Tryz.prog f xs k es:=by
 have key:∀ (k0:Nat),knX.go k0 xs=some (k,es)→k=k0∧((xs=[.p (.sl es)]∧(es.all fun c=>decide (c.length=k0))=true∧(es.all fun e=>e.all PV.isVal)=true∧es.length < 1000000)∨(xs=[C4]∧es=[])):=by
  intro k0 h
  unfold knX.go at h
  split at h
  ·split at h
   ·rename_i hc
    cases h
    simp only [Bool.and_eq_true,F6] at hc
    refine ⟨rfl,.inl ⟨rfl,?_,hc.2.1,hc.2.2⟩⟩
    rw [List.all_eq_true] at *
    exact fun c hm=>decide_eq_true (Bn.1 (hc.1 c hm))
   ·cases h
  ·cases h; exact ⟨rfl,.inr ⟨rfl,rfl⟩⟩
  ·cases h
 unfold knX at h
 split at h
 ·rename_i hf; rw [Bn] at hf; subst hf
  obtain ⟨rfl,⟨rfl,h1,h2,h3⟩ | ⟨rfl,rfl⟩⟩:=key 1 h
  ·exact Anz es h1 h2 h3
  ·exact Ai7
 ·split at h
  ·rename_i hf; rw [Bn] at hf; subst hf
   obtain ⟨rfl,⟨rfl,h1,h2,h3⟩ | ⟨rfl,rfl⟩⟩:=key 5 h
   ·exact Acp es h1 h2 h3
   ·exact Akh
  ·cases h
def mzX:Value:=Al6
def mtX (t:Nat):Option (Nat × Value):=match eqN t 178 with
 | true=>some (14,mzX)
 | false=>none
def qeX (t n:Nat):Bool:=eqN t 120&&eqN n 8
theorem Ay3:Ml Tryz.prog 120 8:=Rn (by kernel_rfl)
def cfX (N id:Nat):Option (Option Nat × List Cf):=match eqN N 69&&eqN id 706 with
 | true=>some (none,[.sto [11] 8,.sto [67] 8])
 | false=>match eqN N 54&&eqN id 711 with
 | true=>some (some 9,[.app [4]])
 | false=>match eqN N 52&&eqN id 714 with
 | true=>some (none,[])
 | false=>match eqN N 54&&eqN id 208 with
 | true=>some (some 8,[])
 | false=>match eqN N 54&&eqN id 715 with
 | true=>some (some 9,[.app [6],.app [13,41]])
 | false=>none
def lvX (_ _:Nat):Option (List Nat):=none
noncomputable def rpX:RP:=⟨tyX,[60,61,66,68,71,76,81,84,85,88,98,101,105,107,110,112,116,123,125,127,128,133,135,136,138,139],[84],[130],knX,mtX,qeX,cfX,lvX⟩
theorem Ry:Pn Tryz.prog rpX where
 ty:=Ax6
 mix:=rfl
 kn:=Ayv
 mt t n z h:=by
  have h:mtX t=some (n,z):=h
  unfold mtX at h
  split at h
  ·rename_i he; rw [Bn] at he; subst he; cases h
   exact ⟨194,196,by simp only [amT],Awb,rfl,Axl⟩
  ·cases h
 qe t n h:=by
  have h:qeX t n=true:=h
  unfold qeX at h
  rw [Bool.and_eq_true,Bn,Bn] at h
  obtain ⟨rfl,rfl⟩:=h
  exact Ay3
end AM.Try
end
/- Closed runs: the bounds, the readings that are left out, an original gravity, a plan: the document's examples. -/
section
namespace AM.Try
open Go AM AM.Wort Go.Proofs
open Nat renaming reduceLT→sA,reduceAdd→sB,reduceMul→sC,reduceSub→sD,reduceLeDiff→sE,reduceEqDiff→sF,reduceBEq→sG
open Int renaming reduceAdd→sH,reduceSub→sI,reduceMul→sJ,reduceLT→sK,reduceLE→sL,reduceNeg→sM,reduceToNat→sN,reduceEq→sO
set_option maxRecDepth 100000
def two (most:Int):Eg:=⟨[⟨⟨10,most⟩,⟨60,60⟩,20⟩,⟨⟨5,5⟩,⟨30,30⟩,12⟩],[⟨0,0,1,⟨4,4⟩⟩,⟨2,1,1,⟨1,2⟩⟩,⟨1,0,0,⟨2,2⟩⟩]⟩
theorem Afh:Bu Tryz.prog 55 [.p (.sl [[iv 0],[iv 4],[iv 9],[iv 14]]),i64 10,i64 15] (.tup [i64 17,i64 0]):=Hu Ry 10000 (by kernel_rfl)
theorem Apf:Bu Tryz.prog 24 [avB (two 11)] (.tup [.p (.sl [[iv 8,iv 9,iv 360,iv 420,iv 45,iv 47],[iv 7,iv 8,iv 390,iv 390,iv 49,iv 56]]),i64 0]):=Hu Ry 10000 (by kernel_rfl)
theorem Aqm:Bu Tryz.prog 28 [avB (two 11),.p (.sl [[iv 1,iv 7,iv 7,iv 40,iv 50],[iv 0,iv 9,iv 9,iv 0,iv 99]])] (.tup [.p (.sl [[iv 0]]),i64 0]):=Hu Ry 10000 (by kernel_rfl)
theorem Ar1:Bu Tryz.prog 35 [avB (two 10),.p (.sl [[iv 0,iv 0,iv 1,iv 4,iv 4],[iv 1,iv 0,iv 0,iv 2,iv 2]]),i64 8,i64 45,i64 2] (bl true):=Hu Ry 10000 (by kernel_rfl)
end AM.Try
end
/- The program: losses, the original gravity of a beer. -/
section
namespace AM.Try
open Go AM AM.Wort Go.Proofs
open Nat renaming reduceLT→sA,reduceAdd→sB,reduceMul→sC,reduceSub→sD,reduceLeDiff→sE,reduceEqDiff→sF,reduceBEq→sG
open Int renaming reduceAdd→sH,reduceSub→sI,reduceMul→sJ,reduceLT→sK,reduceLE→sL,reduceNeg→sM,reduceToNat→sN,reduceEq→sO
set_option maxRecDepth 100000
set_option maxHeartbeats 16000000
theorem Azc (a b:Int):Bu Tryz.prog 132 [.p (.sl [[iv a],[iv b]])] (i64 (min a b)):=by
  refine Bo (v:=[]) (q:=[]) (N:=25) (rs:=[.tmp 2]) Tryz.func132 rfl rfl rfl rfl rfl ?_
  refine Ad fun K1 hK1=>?_
  simp (disch:=omega) only [amL,sA]
  refine hK1 _ ?_
  refine Ab fun K2 hK2=>?_
  refine Ad fun K3 hK3=>?_
  simp (disch:=omega) only [amL,amT,sA,sB,sH,sK,↓reduceIte,reduceCtorEq]
  refine hK3 _ ?_
  refine Al rfl (fun h=>MT.x ?_) (fun h=>ME.x ?_)
  all_goals
   first
   |refine MT.mk ?_
    first
    |exact Bool.noConfusion h
    |skip
     try simp only [nrm] at h
     exfalso; omega
   |refine ME.mk ?_
    first
    |exact Bool.noConfusion h
    |skip
     try simp only [] at h
     refine Am ?_
     refine hK2 _ ?_
  all_goals
   skip
   refine Ad fun K4 hK4=>?_
   simp (disch:=omega) only [amL,amT,sA,sB,sH,sK,sL,sN,↓reduceIte,reduceCtorEq]
   refine hK4 _ ?_
   refine Ab fun K5 hK5=>?_
   refine Ad fun K6 hK6=>?_
   simp (disch:=omega) only [amL,sA]
   refine hK6 _ ?_
   refine Au ?_
   skip
   refine Bg (α:=Nat) (fun k=>⟨T [(0,.p (.sl [[iv a],[iv b]])),(3,i64 (if k=0 then a else min a b)),(4,i64 ((k:Int)+1))],O []⟩) (fun k=>1 - k) (fun k=>k≤1) 0 ?_ ?_ (fun k hx7 K7 hK7=>?_)
   · simp
   · refine Dg ?_ ?_ ?_ ?_ <;> (try simp (disch:=omega) only [amL,sF,sH,↓reduceIte,reduceCtorEq]); all_goals rfl
   have hk:=hx7
   refine Ab fun K8 hK8=>?_
   refine Ad fun K9 hK9=>?_
   simp (disch:=omega) only [amL,amT,sA,sB,sF,sH,↓reduceIte,reduceCtorEq]
   refine hK9 _ ?_
   refine Al rfl (fun h=>MT.x ?_) (fun h=>ME.x ?_)
   all_goals
    first
    |refine MT.mk ?_
     first
     |exact Bool.noConfusion h
     |skip
      try simp only [nrm] at h
      refine Am ?_
      refine hK8 _ ?_
    |refine ME.mk ?_
     first
     |exact Bool.noConfusion h
     |skip
      try simp only [nrm] at h
      refine Bq ?_
      refine hK5 _ ?_
      refine Ad fun K10 hK10=>?_
      simp (disch:=omega) only [amL,sA,sF,↓reduceIte,reduceCtorEq]
      refine hK10 _ ?_
      refine Aj ?_
      try simp (disch:=omega) only [amL,↓reduceIte]
      all_goals first | rfl | trace_state
   all_goals
    skip
    refine Ab fun K11 hK11=>?_
    refine Au ?_
    refine Ah ?_
    obtain rfl:k=0:=by omega
    simp (disch:=omega) only [amL,amT,sA,sB,sF,sH,sK,sL,sN,↓reduceIte,reduceCtorEq]
    refine hK11 _ ?_
    refine Ah ?_
    simp (disch:=omega) only [amL,amT,sA,sF,sH,↓reduceIte,reduceCtorEq]
    refine hK7 1 _ ?_ ?_ (Dg ?_ ?_ ?_ ?_)
    all_goals (try simp (disch:=omega) only [amL,sD,sF,sH,↓reduceIte,reduceCtorEq])
    all_goals first | omega | exact congrArg i64 (by split <;> omega) | trace_state
theorem X1 (a b:Int):Bu Tryz.prog 111 [.p (.sl [[iv a],[iv b]])] (i64 (min a b)):=by
  refine Bo (v:=[]) (q:=[]) (N:=5) (rs:=[.tmp 2]) Tryz.func111 rfl rfl rfl rfl rfl ?_
  refine Ad fun K1 hK1=>?_
  simp (disch:=omega) only [amL,sA]
  refine hK1 _ ?_
  refine Ad fun K2 hK2=>?_
  simp (disch:=omega) only [amL,sA,↓reduceIte,reduceCtorEq]
  repeat' first | (refine Ax (by kernel_rfl) rfl (Azc a b) (by first | exact .inl rfl | exact .inr (.inl rfl)) ?_ ; simp (disch:=omega) only [amL,sA,↓reduceIte])
  refine hK2 _ ?_
  refine Aj ?_
  try simp (disch:=omega) only [amL,↓reduceIte]
  all_goals rfl
theorem Ahf:Bu Tryz.prog 94 [] (avR ⟨0,120⟩):=by
  refine Bo (v:=[]) (q:=[]) (N:=2) (rs:=[.cell 0 58]) Tryz.func94 rfl rfl rfl rfl rfl ?_
  refine Ad fun K1 hK1=>?_
  simp (disch:=omega) only [amL,amT,sA,sB,↓reduceIte]
  refine hK1 _ ?_
  refine Ad fun K2 hK2=>?_
  simp (disch:=omega) only [amL,amT,sA,sB,sE,↓reduceIte,reduceCtorEq]
  refine hK2 _ ?_
  refine Aj ?_
  try simp (disch:=omega) only [amL,amT,sB,↓reduceIte,reduceCtorEq]
  all_goals rfl
theorem Ak3 (l:List Int) (hl:l.length < 1000000):Bu Tryz.prog 95 [.p (.sl (l.map J3))] (avR ⟨0,10 * ((l.length:Int) - 1)⟩):=by
  refine Bo (v:=[]) (q:=[]) (N:=8) (rs:=[.cell 2 58]) Tryz.func95 rfl rfl rfl rfl rfl ?_
  refine Ad fun K1 hK1=>?_
  simp (disch:=omega) only [amL,amT,sA,sB,↓reduceIte]
  refine hK1 _ ?_
  refine Ad fun K2 hK2=>?_
  simp (disch:=omega) only [amL,amT,sA,sB,sE,sF,↓reduceIte,reduceCtorEq]
  refine hK2 _ ?_
  refine Aj ?_
  try simp (disch:=omega) only [amL,amT,sB,sF,↓reduceIte]
  all_goals rfl
theorem Aq8 (r o:Rng):Bu Tryz.prog 97 [avR r,avR o] (bl (Jy r o)):=by
  refine Bo (v:=[]) (q:=[]) (N:=22) (rs:=[.tmp 4]) Tryz.func97 rfl rfl rfl rfl rfl ?_
  refine Ad fun K1 hK1=>?_
  simp (disch:=omega) only [amL,sA,sB,sF,↓reduceIte,reduceCtorEq]
  refine hK1 _ ?_
  refine Ad fun K2 hK2=>?_
  simp (disch:=omega) only [amL,amT,sA,sF,↓reduceIte,reduceCtorEq]
  repeat' first | (refine E3 (fun h=>?_) (fun h=>?_) <;> simp (disch:=omega) only [h,amL,amT,sA,sB,sF,↓reduceIte,reduceCtorEq]) | (refine Cz (fun h=>?_) (fun h=>?_) <;> simp (disch:=omega) only [h,amL,amT,sA,sB,sF,↓reduceIte,reduceCtorEq]) | (refine Ax (by kernel_rfl) rfl (Agb _ _) (by first | exact .inl rfl | exact .inr (.inl rfl)) ?_ ; simp (disch:=omega) only [amL,sA,sF,↓reduceIte])
  all_goals
   skip
   refine hK2 _ ?_
   refine Aj ?_
   try simp (disch:=omega) only [amL,↓reduceIte]
   all_goals first | (simp_all [Jy]; done) | (simp_all [Jy]; intros; omega)
theorem sfN:Mf Tryz.prog 26 3 116 3 4 139 136:=⟨⟨_,Tryz.func139,rfl,rfl,rfl,by kernel_rfl⟩,⟨_,Tryz.func136,rfl,rfl,rfl,by kernel_rfl⟩⟩
theorem afN:Ayr Tryz.prog 26 3 116 4 136 137 123:=⟨⟨_,Tryz.func137,rfl,rfl,rfl,by kernel_rfl⟩,⟨_,Tryz.func123,rfl,rfl,rfl,by kernel_rfl⟩⟩
theorem sfR:Mf Tryz.prog 113 58 173 3 4 138 125:=⟨⟨_,Tryz.func138,rfl,rfl,rfl,by kernel_rfl⟩,⟨_,Tryz.func125,rfl,rfl,rfl,by kernel_rfl⟩⟩
theorem afR:Ai3 Tryz.prog 113 58 173 4 125 126 98:=⟨⟨_,Tryz.func126,rfl,rfl,rfl,by kernel_rfl⟩,⟨_,Tryz.func98,rfl,rfl,rfl,by kernel_rfl⟩⟩
theorem Ali {last n:Int} {nl:Nat} {os:Nat→Option AO} {bd:Nat} (hn:os nl=some (.cells [i64 last])) :
    Bh Tryz.prog bd (.fn (.func 124) [] [.ptr nl 0]) [i64 n] os fun res os'=>res=bl (J8 last n).2∧os'=upd os nl (some (.cells [i64 n])):=by
  refine B3 (v:=[]) (q:=[]) (N:=11) (rs:=[.tmp 3]) Tryz.func124 rfl (by kernel_rfl) rfl rfl (fun hcl hfree=>?_)
  refine Ad fun K1 hK1=>?_
  simp (disch:=omega) only [amL,sA,sB]
  refine hK1 _ ?_
  refine Ad fun K2 hK2=>?_
  simp (disch:=omega) only [hn,amL,amT,sA,sF,↓reduceIte,reduceCtorEq]
  repeat' first | (refine Ax (by kernel_rfl) rfl (Lb _ _ _) (by first | exact .inl rfl | exact .inr (.inl rfl)) ?_ ; simp (disch:=omega) only [amL,sA,↓reduceIte])
  refine hK2 _ ?_
  refine Ad fun K3 hK3=>?_
  simp (disch:=omega) only [hn,amL,amT,sA,sF,↓reduceIte,reduceCtorEq]
  refine hK3 _ ?_
  refine Ad fun K4 hK4=>?_
  simp (disch:=omega) only [amL,sA,sF,↓reduceIte]
  refine hK4 _ ?_
  refine Aj ?_
  try simp (disch:=omega) only [amL]
  refine A6 (res:=bl _) (upd os nl (some (.cells [i64 n]))) (by simp (disch:=omega) only [amL,↓reduceIte]; try rfl) (Sub.refl _) (Cs hcl (by rw [Dw,Cm,Cq]; exact ⟨AV.lives_p _ _,trivial⟩)) (AV.lives_p _ _) ⟨rfl,rfl⟩
theorem Amw {l:List Int} {nl:Nat}:Hd Tryz.prog (.fn (.func 124) [] [.ptr nl 0]) (fun n=>n=nl) i64 l (fun last os=>os nl=some (.cells [i64 last])) J8 where
  live s os h:=by rw [Fr,Cq,Cm,Cq,C8,h]; exact ⟨trivial,rfl,trivial⟩
  stable s os os' h h2:=(h2 nl rfl).trans h
  foot s os n h hn:=by
    subst hn
    refine ⟨_,h,fun m hm=>?_⟩
    simp [AO.clean,AV.clean,AV.clean.cleanL] at hm
  call s x os bd _ h _:=by
    refine Bh.mono (Ali h) ?_
    rintro r os' ⟨rfl,rfl⟩
    exact ⟨rfl,Bc,fun n hn=>Ac hn⟩
theorem Aml {l:List Int} {nl:Nat} {os:Nat→Option AO} {bd:Nat} (hl:l.length < 1000000) (h:os nl=some (.cells [i64 (-1)])) :
    Bh Tryz.prog bd (.fn (.func 123) [] []) [.p (.sl (l.map J3)),.fn (.func 124) [] [.ptr nl 0]] os fun res os'=>res=bl (Aav l)∧(∃ z,os' nl=some (.cells [i64 z]))∧∀ n,n≠nl→os' n=os n:=by
  refine Bh.mono (Axc elN sfN afN (by simp only [amT]; rfl) hl (Amw (nl:=nl)) (fun m hm=>?_) (s:=-1) (bd:=bd) h) ?_
  · have:nl=m:=by simpa [AV.clean,AV.clean.cleanL] using hm
    exact this.symm
  · rintro r os' ⟨h1,h2,h3⟩
    exact ⟨h1,⟨_,h2⟩,h3⟩
theorem Arn (l:List Int) (hl:l.length < 1000000):Bu Tryz.prog 93 [.p (.sl (l.map J3))] (i64 (Ja l)):=by
  refine Bo (v:=[123]) (q:=[]) (N:=24) (rs:=[.tmp 2]) Tryz.func93 rfl rfl rfl rfl rfl ?_
  refine Ad fun K1 hK1=>?_
  simp (disch:=omega) only [amL,sA]
  refine hK1 _ ?_
  refine Ab fun K2 hK2=>?_
  refine Ad fun K3 hK3=>?_
  simp (disch:=omega) only [amL,amT,sA,↓reduceIte,reduceCtorEq]
  refine hK3 _ ?_
  refine Al rfl (fun h=>MT.x ?_) (fun h=>ME.x ?_)
  all_goals
   first
   |refine MT.mk ?_
    first
    |exact Bool.noConfusion h
    |skip
     try simp only [nrm] at h
     refine Ad fun K4 hK4=>?_
     simp (disch:=omega) only [amL,sA]
     refine hK4 _ ?_
     refine Aj ?_
     try simp (disch:=omega) only [amL,↓reduceIte]
     all_goals first | (simp_all [Ja]; done) | (simp_all [Ja]; omega) | trace_state
   |refine ME.mk ?_
    first
    |exact Bool.noConfusion h
    |skip
     try simp only [nrm] at h
     refine Am ?_
     refine hK2 _ ?_
  all_goals
   skip
   refine Ad fun K5 hK5=>?_
   simp (disch:=omega) only [amL,amT,sA,sM,↓reduceIte]
   refine hK5 _ ?_
   refine Ad fun K6 hK6=>?_
   simp (disch:=omega) only [amL,sA,sF,sM,↓reduceIte,reduceCtorEq]
   refine A2 [(0,.p (.sl (l.map J3)))] (by decide) (Aml (l:=l) (nl:=3) (bd:=24) hl rfl) (Lg rfl) (by decide) (fun res os2 hR hcl2 hlv2=>?_)
   obtain ⟨rfl,⟨z,hz⟩,hfr2⟩:=hR
   simp (disch:=omega) only [amL,sA,↓reduceIte,reduceCtorEq]
   refine hK6 _ ?_
   refine Ab fun K7 hK7=>?_
   refine Ad fun K8 hK8=>?_
   simp (disch:=omega) only [amL,amT,sA,↓reduceIte,reduceCtorEq]
   repeat' first | (refine E3 (fun h=>?_) (fun h=>?_) <;> simp (disch:=omega) only [h,amL,sA,sF,↓reduceIte]) | (refine Cz (fun h=>?_) (fun h=>?_) <;> simp (disch:=omega) only [h,Bm,amL,amT,sA,sF,sL,sN,↓reduceIte,reduceCtorEq])
   all_goals
    skip
    refine hK8 _ ?_
    refine Al rfl (fun h=>MT.x ?_) (fun h=>ME.x ?_)
    all_goals
     first
     |refine MT.mk ?_
      first
      |exact Bool.noConfusion h
      |skip
       try simp only [nrm] at h
       refine Ad fun K9 hK9=>?_
       simp (disch:=omega) only [amL,sA]
       refine hK9 _ ?_
       refine Aj ?_
       try simp (disch:=omega) only [amL,↓reduceIte]
       all_goals first | (simp_all [Ja]; done) | (simp_all [Ja]; omega) | trace_state
     |refine ME.mk ?_
      first
      |exact Bool.noConfusion h
      |skip
       try simp only [nrm] at h
       refine Am ?_
       refine hK7 _ ?_
    all_goals
     skip
     refine Ad fun K10 hK10=>?_
     simp (disch:=omega) only [amL,sA]
     refine hK10 _ ?_
     refine Aj ?_
     try simp (disch:=omega) only [amL,↓reduceIte]
     all_goals first | (simp_all [Ja]; done) | (simp_all [Ja]; omega) | trace_state
theorem Ayz {l:List Int} (hl:R6 l) {s:Int} (h1:0≤s) (h2:s≤10 * ((l.length:Int) - 1)):Bu Tryz.prog 96 [.p (.sl (l.map J3)),i64 s] (i64 (Qn l s)):=by
  obtain ⟨k1,k2,k3,k4,n1,n2,f1,f2⟩:=Ps hl h1 h2
  have g1:=La hl (Ce l s).toNat
  have g2:=La hl ((Ce l s).toNat+1)
  have a1:=hl.len
  have a2:=hl.len2
  refine Bo (v:=[]) (q:=[]) (N:=38) (rs:=[.tmp 4]) Tryz.func96 rfl rfl rfl rfl rfl ?_
  refine Ad fun K1 hK1=>?_
  simp (disch:=omega) only [amL,sA,sB]
  refine hK1 _ ?_
  refine Ab fun K2 hK2=>?_
  refine Mm 5 ?_
  simp (disch:=omega) only [Su,Pa,Ly,H6,Fh,amL,amT,sA,sB,sE,sF,sO,↓reduceIte,reduceCtorEq]
  repeat' first | (refine Ax (by kernel_rfl) rfl (X1 _ _) (by first | exact .inl rfl | exact .inr (.inl rfl)) ?_ ; simp (disch:=omega) only [amL,sA,↓reduceIte])
  refine hK2 _ ?_
  refine Ad fun K3 hK3=>?_
  simp (disch:=omega) only [amL,amT,sA,sF,↓reduceIte,reduceCtorEq]
  refine hK3 _ ?_
  refine Ab fun K4 hK4=>?_
  refine Cj (by kernel_rfl) (by kernel_rfl) ?_
  simp (disch:=omega) only [Bm,amL,amT,sA,sF,↓reduceIte,reduceCtorEq]
  refine hK4 _ ?_
  refine Ad fun K5 hK5=>?_
  simp (disch:=omega) only [amL,amT,sA,sO,↓reduceIte]
  refine hK5 _ ?_
  refine Aj ?_
  try simp (disch:=omega) only [amL,↓reduceIte]
  exact congrArg i64 (Ama hl h1 h2)
theorem Aso (r:Rng):Bu Tryz.prog 99 [avR r] (bl (decide (r.lo≤r.hi))):=by
  refine Bo (v:=[]) (q:=[]) (N:=8) (rs:=[.tmp 2]) Tryz.func99 rfl rfl rfl rfl rfl ?_
  refine Ad fun K1 hK1=>?_
  simp (disch:=omega) only [amL,sA,↓reduceIte]
  refine hK1 _ ?_
  refine Ad fun K2 hK2=>?_
  simp (disch:=omega) only [amL,amT,sA,sF,↓reduceIte,reduceCtorEq]
  refine hK2 _ ?_
  refine Aj ?_
  try simp (disch:=omega) only [amL,↓reduceIte]
  all_goals rfl
theorem Axs (l:List Rng) (hl:l.length < 1000000):Bu Tryz.prog 98 [.p (.sl (l.map Hy)),.fn (.func 99) [] []] (bl (l.all fun r=>decide (r.lo≤r.hi))):=by
  refine Bo (v:=[125]) (q:=[]) (N:=9) (rs:=[.tmp 4]) Tryz.func98 rfl rfl rfl rfl rfl ?_
  have hT:=Apw (P:=Tryz.prog) (l:=l) (arg:=avR) (f:=99) (fs:=[]) (g:=fun r=>decide (r.lo≤r.hi)) (by kernel_rfl) rfl (fun x _=>Aso x)
  have hfvT:(Aa Tryz.prog 173).agg=some false:=by simp only [amT]; rfl
  have ht:=At4 (nb:=3) (fun nb hnb s x os bd hx hI h=>Aun elR afR hfvT hT hnb (s:=s) hx hI h) hT (fun h=>h) (fun m hm=>by cases hm)
  have cC:=Avp elR sfR (bd:=9) hl ht (s:=()) (os:=O [(3,.cells [.fn (.func 99) [] []])]) ⟨trivial,rfl⟩
  obtain ⟨sa1,sa2⟩:=Tq (step:=fun (_:Unit) (x:Rng)=>((),decide (x.lo≤x.hi))) l () 0
  refine Ad fun K1 hK1=>?_
  simp (disch:=omega) only [amL,sA,sB,↓reduceIte,reduceCtorEq]
  refine hK1 _ ?_
  refine Ad fun K2 hK2=>?_
  simp (disch:=omega) only [amL,sA,sF,↓reduceIte,reduceCtorEq]
  refine A2 [] (by decide) cC (Lg rfl) (by decide) (fun res os2 hR hcl2 hlv2=>?_)
  obtain ⟨rfl,_,hfr2⟩:=hR
  simp (disch:=omega) only [amL,sA,↓reduceIte]
  refine hK2 _ ?_
  refine Aj ?_
  try simp (disch:=omega) only [amL,↓reduceIte]
  rw [sa2,Rq]
theorem Avi:(Aa Tryz.prog 175).k=.mp 3 4:=by kernel_rfl
theorem An7 {l:List Int} {g sp:Rng} {b:List Rng} (_:R6 l) (h:Sk l g sp b=true):0≤g.lo∧g.lo≤g.hi∧g.hi≤120∧0≤sp.lo∧sp.lo≤sp.hi∧sp.hi≤10 * ((l.length:Int) - 1):=by
  simp only [Sk,Jy,Jk,inB,Bool.and_eq_true,decide_eq_true_eq] at h
  omega
theorem Akp {l:List Int} {g sp:Rng} {b:List Rng} (h1:(!Jy ⟨0,120⟩ ⟨g.lo,g.hi⟩)=false) (h2:(!Jy ⟨0,10 * ((l.length:Int) - 1)⟩ ⟨sp.lo,sp.hi⟩)=false) (h3:(b.all fun r=>decide (r.lo≤r.hi))=true):Sk l g sp b=true:=by
  unfold Sk; simp only [Bool.not_eq_false'] at h1 h2; rw [h1,h2,h3]; rfl
theorem P4 {l:List Int} {g sp:Rng} {b:List Rng} (h:(!Jy ⟨0,120⟩ ⟨g.lo,g.hi⟩)=true∨(!Jy ⟨0,10 * ((l.length:Int) - 1)⟩ ⟨sp.lo,sp.hi⟩)=true∨(b.all fun r=>decide (r.lo≤r.hi))=false):¬ Sk l g sp b=true:=fun e=>by
  simp only [Sk,Bool.and_eq_true] at e
  obtain ⟨e1,e2,e3⟩:=e
  rcases h with h | h | h
  · rw [e1] at h; cases h
  · rw [e2] at h; cases h
  · rw [e3] at h; cases h
theorem Aig (l:List Int) (g sp:Rng) (b:List Rng):(Ks l g sp b).isP=true:=by
  unfold Ks; split
  · rfl
  · split <;> rfl
theorem Aya (l:List Int) (g sp:Rng) (b:List Rng) (hl:l.length < 1000000) (hb:b.length < 1000000):Bu Tryz.prog 56 [.p (.sl (l.map J3)),avR g,avR sp,.p (.sl (b.map Hy))] (Ks l g sp b):=by
  refine Bo (v:=[]) (q:=[]) (N:=84) (rs:=[.tmp 8,.tmp 9]) Tryz.func56 rfl rfl rfl rfl (Aig l g sp b) ?_
  refine Ab fun K1 hK1=>?_
  refine Ah ?_
  simp (disch:=omega) only [amL,sA,sB,sF,↓reduceIte,reduceCtorEq]
  refine hK1 _ ?_
  refine Ab fun K2 hK2=>?_
  refine Ab fun K3 hK3=>?_
  refine Ah ?_
  simp (disch:=omega) only [amL,sA,↓reduceIte,reduceCtorEq]
  repeat' first | (refine Ax (by kernel_rfl) rfl (Arn l hl) (by first | exact .inl rfl | exact .inr (.inl rfl)) ?_ ; simp (disch:=omega) only [amL,sA,↓reduceIte])
  refine hK3 _ ?_
  refine Ab fun K4 hK4=>?_
  refine Ah ?_
  simp (disch:=omega) only [amL,amT,sA,↓reduceIte]
  refine hK4 _ ?_
  refine Al rfl (fun h=>?_) (fun h=>?_)
  ·first
   | exact Bool.noConfusion h
   |skip
    try simp only [Bool.not_eq_true',decide_eq_false_iff_not,decide_not] at h
    refine Ab fun K5 hK5=>?_
    refine Ah ?_
    simp (disch:=omega) only [amL,sA,sF,↓reduceIte]
    refine hK5 _ ?_
    refine Aj ?_
    try simp (disch:=omega) only [amL,sF,↓reduceIte]
    all_goals first | (rw [Ks,if_pos (by assumption)]; done) | (rw [Ks,if_neg (by omega),if_neg (P4 (by first | exact .inl (by assumption) | exact .inr (.inl (by assumption)) | exact .inr (.inr (by assumption))))]; done) | ((obtain rfl:i=b.length:=by omega) ; rw [Ks,if_neg (by omega),if_pos hmb,List.take_of_length_le (by simp)]; done) | trace_state
  ·first
   | exact Bool.noConfusion h
   |skip
    try simp only [decide_eq_true_eq,Bool.not_eq_false',decide_not] at h
    refine Am ?_
    refine hK2 _ ?_
    refine Ab fun K6 hK6=>?_
    refine Ab fun K7 hK7=>?_
    refine Cj (by kernel_rfl) (by kernel_rfl) ?_
    have hok:=Aym (l:=l) (by omega)
    simp (disch:=omega) only [amL]
    repeat' first | (refine E3 (fun h=>?_) (fun h=>?_) <;> simp (disch:=omega) only [h,Bi,amL,amT,sA,sB,sC,sD,sE,sF,sG,sH,sI,sJ,sK,sL,sM,sN,sO,↓reduceIte,reduceCtorEq]) | (refine Cz (fun h=>?_) (fun h=>?_) <;> simp (disch:=omega) only [h,amL,sA,sF,↓reduceIte,reduceCtorEq]) | (refine Ax (by kernel_rfl) rfl (Ahf) (by first | exact .inl rfl | exact .inr (.inl rfl)) ?_ ; simp (disch:=omega) only [amL,amT,sA,sB,sF,↓reduceIte]) | (refine Ax (by kernel_rfl) rfl (Aq8 ⟨_,_⟩ ⟨_,_⟩) (by first | exact .inl rfl | exact .inr (.inl rfl)) ?_ ; simp (disch:=omega) only [amL,sA,sF,↓reduceIte]) | (refine Ax (by kernel_rfl) rfl (Ak3 l hl) (by first | exact .inl rfl | exact .inr (.inl rfl)) ?_ ; simp (disch:=omega) only [amL,amT,sA,sB,sF,↓reduceIte]) | (refine Ax (by kernel_rfl) rfl (Axs b hb) (by first | exact .inl rfl | exact .inr (.inl rfl)) ?_ ; simp (disch:=omega) only [amL,sA,sF,↓reduceIte])
    all_goals
     skip
     refine hK7 _ ?_
     refine Al rfl (fun h=>?_) (fun h=>?_)
     ·first
      | exact Bool.noConfusion h
      |skip
       try simp only [Bool.not_eq_true'] at h
       refine Ab fun K8 hK8=>?_
       refine Ah ?_
       simp (disch:=omega) only [amL,sA]
       refine hK8 _ ?_
       refine Aj ?_
       try simp (disch:=omega) only [amL,sF,↓reduceIte]
       all_goals first | (rw [Ks,if_pos (by assumption)]; done) | (rw [Ks,if_neg (by omega),if_neg (P4 (by first | exact .inl (by assumption) | exact .inr (.inl (by assumption)) | exact .inr (.inr (by assumption))))]; done) | ((obtain rfl:i=b.length:=by omega) ; rw [Ks,if_neg (by omega),if_pos hmb,List.take_of_length_le (by simp)]; done) | trace_state
     ·first
      | exact Bool.noConfusion h
      |skip
       try simp only [Bool.not_eq_false'] at h
       refine Am ?_
       refine hK6 _ ?_
       refine Ab fun K9 hK9=>?_
       have hmb:Sk l g sp b=true:=Akp (by assumption) (by assumption) (by assumption)
       obtain ⟨q1,q2,q3,q4,q5,q6⟩:=An7 hok hmb
       refine C2 ?_
       refine AL.step (Wv (dd:=39) rfl rfl (by decide) rfl ?_)
       refine Dd ?_
       simp (disch:=omega) only [amL,sA,↓reduceIte]
       refine hK9 _ ?_
       refine Ab fun K10 hK10=>?_
       refine Ab fun K11 hK11=>?_
       refine Ah ?_
       simp (disch:=omega) only [amL,amT,sA,sF,↓reduceIte,reduceCtorEq]
       refine hK11 _ ?_
       refine Au ?_
       skip
       refine Bg (α:=Nat) (fun k=>⟨T [(0,.p (.sl (l.map J3))),(3,.p (.sl (b.map Hy))),(5,.ptr 5 0),(6,.ptr 6 0),(11,.mp 39),(12,i64 (sp.lo+k))],O [(5,.cells [i64 g.lo,i64 g.hi]),(6,.cells [i64 sp.lo,i64 sp.hi]),(39,.obj (Aar (Aq4 l g sp k)))]⟩) (fun k=>Rl sp - k) (fun k=>k≤Rl sp) 0 ?_ ?_ (fun k hx12 K12 hK12=>?_)
       · exact Nat.zero_le _
       · refine Dg ?_ ?_ ?_ ?_ <;> (try simp (disch:=omega) only [amL,sF,sG,↓reduceIte,reduceCtorEq]); all_goals first | rfl | trace_state
       have hk:=hx12
       refine Ab fun K13 hK13=>?_
       refine Ab fun K14 hK14=>?_
       refine Ah ?_
       simp (disch:=omega) only [amL,amT,sA,sF,↓reduceIte,reduceCtorEq]
       refine hK14 _ ?_
       refine Al rfl (fun h=>?_) (fun h=>?_)
       ·first
        | exact Bool.noConfusion h
        |skip
         try simp only [decide_eq_true_eq] at h
         refine Am ?_
         refine hK13 _ ?_
         refine Ab fun K15 hK15=>?_
         refine Au ?_
         refine Ab fun K16 hK16=>?_
         refine Ah ?_
         simp (disch:=omega) only [amL,amT,sA,sF,↓reduceIte,reduceCtorEq]
         refine hK16 _ ?_
         refine Au ?_
         skip
         refine Bg (α:=Nat) (fun j=>⟨T [(0,.p (.sl (l.map J3))),(3,.p (.sl (b.map Hy))),(5,.ptr 5 0),(6,.ptr 6 0),(11,.mp 39),(12,i64 (sp.lo+k)),(13,i64 (g.lo+j))],O [(5,.cells [i64 g.lo,i64 g.hi]),(6,.cells [i64 sp.lo,i64 sp.hi]),(39,.obj (Aar (Aw5 l g.lo (sp.lo+k) j++Aq4 l g sp k)))]⟩) (fun j=>Rl g - j) (fun j=>j≤Rl g) 0 ?_ ?_ (fun j hx17 K17 hK17=>?_)
         · exact Nat.zero_le _
         · refine Dg ?_ ?_ ?_ ?_ <;> (try simp (disch:=omega) only [amL,sF,sG,↓reduceIte,reduceCtorEq]); all_goals first | rfl | trace_state
         have hj:=hx17
         refine Ab fun K18 hK18=>?_
         refine Ab fun K19 hK19=>?_
         refine Ah ?_
         simp (disch:=omega) only [amL,amT,sA,sF,↓reduceIte,reduceCtorEq]
         refine hK19 _ ?_
         refine Al rfl (fun h=>?_) (fun h=>?_)
         ·first
          | exact Bool.noConfusion h
          |skip
           try simp only [decide_eq_true_eq] at h
           refine Am ?_
           refine hK18 _ ?_
           refine Ab fun K20 hK20=>?_
           refine Au ?_
           have hj2:(j:Int) < 121:=by unfold Rl at hj; omega
           have hb1:=Ps hok (s:=sp.lo+k) (by omega) (by omega)
           refine C2 ?_
           refine Jv ?_
           simp (disch:=omega) only [amL,sA,sF,↓reduceIte,reduceCtorEq]
           refine Jv ?_
           simp (disch:=omega) only [amL,sA,sF,↓reduceIte,reduceCtorEq]
           refine Jv ?_
           simp (disch:=omega) only [amL,sA,↓reduceIte,reduceCtorEq]
           refine Jv ?_
           simp (disch:=omega) only [amL,sA,sF,↓reduceIte,reduceCtorEq]
           refine Jv ?_
           simp (disch:=omega) only [amL,sF,↓reduceIte]
           refine Ax (by kernel_rfl) rfl (Ayz hok (s:=sp.lo+k) (by omega) (by omega)) (by first | exact .inl rfl | exact .inr (.inl rfl)) ?_
           simp (disch:=omega) only [amL]
           refine Jv ?_
           simp (disch:=omega) only [amL,amT,sA,sF,↓reduceIte]
           refine AL.step (Aa5 (k:=3) (e:=4) (m:=39) (n:=g.lo+j+Qn l (sp.lo+k)) rfl rfl Avi (by kernel_rfl) rfl rfl rfl (by simp [inR]; omega) rfl ?_)
           refine Dd ?_
           simp (disch:=omega) only [amL]
           refine hK20 _ ?_
           refine Ah ?_
           simp (disch:=omega) only [amL,amT,sA,sF,↓reduceIte,reduceCtorEq]
           refine hK17 (j+1) _ ?_ ?_ (Dg ?_ ?_ ?_ ?_)
           all_goals (try simp (disch:=omega) only [amL,sF,sG,↓reduceIte,reduceCtorEq])
           all_goals first | rfl | (unfold Rl at *; omega) | exact congrArg i64 (by omega) | trace_state
         ·first
          | exact Bool.noConfusion h
          |skip
           try simp only [decide_eq_false_iff_not] at h
           refine Bq ?_
           refine hK15 _ ?_
           refine Ah ?_
           simp (disch:=omega) only [amL,amT,sA,sF,↓reduceIte,reduceCtorEq]
           refine hK12 (k+1) _ ?_ ?_ (Dg ?_ ?_ ?_ ?_)
           all_goals (try simp (disch:=omega) only [amL,sF,sG,↓reduceIte,reduceCtorEq])
           all_goals first | (unfold Rl at *; omega) | ((obtain rfl:j=Rl g:=by unfold Rl at *; omega) ; rfl) | exact congrArg i64 (by omega) | trace_state
       ·first
        | exact Bool.noConfusion h
        |skip
         try simp only [decide_eq_false_iff_not] at h
         refine Bq ?_
         refine hK10 _ ?_
         refine Ab fun K21 hK21=>?_
         refine Ah ?_
         obtain rfl:k=Rl sp:=by unfold Rl at *; omega
         simp (disch:=omega) only [amL,sA]
         refine hK21 _ ?_
         refine Ab fun K22 hK22=>?_
         refine Ab fun K23 hK23=>?_
         refine Ah ?_
         simp (disch:=omega) only [amL,amT,sA,sF,↓reduceIte,reduceCtorEq]
         refine hK23 _ ?_
         refine Au ?_
         refine Ai2 39 rfl (fun ob hob=>?_)
         obtain ⟨es,clock,rfl,hE⟩:=Asm hob
         refine Px 81 1 14 (by decide) rfl rfl ?_
         refine Bg (α:=Nat) (fun i=>⟨T [(11,.mp 39),(14,.own 81 (Jg (Ny l g sp) b i).length),(62,.p (.sl (b.map Hy))),(63,i64 b.length),(64,i64 (i:Int))],O [(39,.obj (Yn es clock)),(81,.arr 1 ((Jg (Ny l g sp) b i).map Arl))]⟩) (fun i=>b.length - i) (fun i=>i≤b.length) 0 ?_ ?_ (fun i hx24 K24 hK24=>?_)
         · exact Nat.zero_le _
         · refine Dg ?_ ?_ ?_ ?_ <;> (try simp (disch:=omega) only [amL,sF,sG,↓reduceIte,reduceCtorEq]); all_goals first | rfl | exact ⟨rfl,rfl⟩ | trace_state
         have hi:=hx24
         refine Ab fun K25 hK25=>?_
         refine Ah ?_
         simp (disch:=omega) only [amL,amT,sA,sF,↓reduceIte]
         refine hK25 _ ?_
         refine Ab fun K26 hK26=>?_
         refine Al rfl (fun h=>?_) (fun h=>?_)
         ·first
          | exact Bool.noConfusion h
          |skip
           try simp only [decide_eq_true_eq] at h
           refine Am ?_
           refine hK26 _ ?_
           refine Ab fun K27 hK27=>?_
           refine Au ?_
           refine Ab fun K28 hK28=>?_
           refine Ah ?_
           simp (disch:=omega) only [Bi,amL,amT,sA,sB,sF,↓reduceIte]
           refine hK28 _ ?_
           refine Ab fun K29 hK29=>?_
           refine C2 ?_
           refine Jv ?_
           simp (disch:=omega) only [amL,sA,sF,↓reduceIte]
           refine AL.step (Aco (k:=3) (e:=4) (dd:=70) rfl rfl (by decide) rfl Avi rfl rfl ?_)
           refine Dd ?_
           simp (disch:=omega) only [amL]
           refine hK29 _ ?_
           refine Au ?_
           skip
           refine Bg (α:=Array Nat × Nat) (fun x=>⟨T [(11,.mp 39),(14,.own 81 (Jg (Ny l g sp) b i).length),(15,i64 (i:Int)),(16,.ptr 16 0),(62,.p (.sl (b.map Hy))),(63,i64 b.length),(64,i64 (i:Int)),(70,.ptr 70 0)],O [(16,.cells [i64 (b.getD i default).lo,i64 (b.getD i default).hi]),(39,.obj (Yn es clock)),(81,.arr 1 ((Jg (Ny l g sp) b i).map Arl)),(70,.it 39 (Sp clock x.1 x.2))]⟩) (fun x=>(Fd es x.1).size) (fun x=>clock≤x.2∧T6 (Jk (b.getD i default)) es x.1) (#[],clock) ?_ ?_ (fun x hx30 K30 hK30=>?_)
           · exact ⟨Nat.le_refl _,Ae5⟩
           · refine Dg ?_ ?_ ?_ ?_ <;> (try simp (disch:=omega) only [amL,sF,sG,↓reduceIte]); all_goals first | rfl | trace_state
           obtain ⟨seen,last⟩:=x; dsimp only at hx30 ⊢; obtain ⟨hcl0,hns⟩:=hx30
           refine Ab fun K31 hK31=>?_
           refine Aeg (ι:=Bool × Array Nat × Nat) (fun z=>[(11,.mp 39),(14,.own 81 (Jg (Ny l g sp) b i).length),(15,i64 (i:Int)),(16,.ptr 16 0),(62,.p (.sl (b.map Hy))),(63,i64 b.length),(64,i64 (i:Int)),(70,.ptr 70 0),(72,bl z.1)]) (fun z=>[(16,.cells [i64 (b.getD i default).lo,i64 (b.getD i default).hi]),(39,.obj (Yn es clock)),(81,.arr 1 ((Jg (Ny l g sp) b i).map Arl)),(70,.it 39 (Sp clock z.2.1 z.2.2))]) (fun z=>(z.1=false∧(Fd es seen).size=0)∨(z.1=true∧∃ e ∈ (Fd es seen).toList,z.2.1=seen.push e.born∧z.2.2=clock)) hK31 (fun _=>rfl) (fun _=>rfl) ?_ (fun z hz K31 hK31=>?_)
           · refine C2 ?_
             refine AL.step (Ae1 (m:=39) (ri:=70) rfl (fun k hk=>by cases hk; decide) rfl rfl rfl hE.old hcl0 (fun e he=>by obtain ⟨h1,k,h2,_⟩:=hE.key e he; rw [h1,h2]; exact ⟨rfl,rfl⟩) (fun h0=>?_) (fun e he=>?_))
             · refine Dd ?_
               simp (disch:=omega) only [amL,sA,↓reduceIte]
               refine ⟨(false,seen,last),.inl ⟨rfl,h0⟩,rfl,⟨rfl,rfl,rfl,rfl,rfl,rfl,rfl,rfl,rfl,trivial⟩,⟨rfl,rfl,rfl,rfl,trivial⟩⟩
             · refine Dd ?_
               simp (disch:=omega) only [amL,sA,↓reduceIte]
               refine ⟨(true,seen.push e.born,clock),.inr ⟨rfl,e,he,rfl,rfl⟩,rfl,⟨rfl,rfl,rfl,rfl,rfl,rfl,rfl,rfl,rfl,trivial⟩,⟨rfl,rfl,rfl,rfl,trivial⟩⟩
           obtain ⟨zb,seen2,last2⟩:=z
           dsimp only at hz ⊢
           refine hK31 _ ?_
           refine Ab fun K32 hK32=>?_
           refine Al rfl (fun h=>?_) (fun h=>?_)
           ·first
            | exact Bool.noConfusion h
            |skip
             try simp only [Bool.not_eq_true',decide_eq_true_eq,decide_eq_false_iff_not,Bool.and_eq_true,Bool.not_eq_false',Bool.not_not,decide_not,Bool.not_true,Bool.not_false] at h
             refine Am ?_
             refine hK32 _ ?_
             refine Au ?_
             refine Ab fun K33 hK33=>?_
             obtain ⟨hz0,e,he,rfl,rfl⟩:zb=true∧∃ e ∈ (Fd es seen).toList,seen2=seen.push e.born∧clock=last2:=by
               rcases hz with hz | ⟨hz,e,he,h1,h2⟩
               · rw [hz.1] at h; cases h
               · exact ⟨hz,e,he,h1,h2.symm⟩
             obtain ⟨g1,n,g2,g3,g4⟩:=hE.key e (Tu he).1
             refine C2 ?_
             refine AL.step (Ab4 (m:=39) (ri:=70) (e:=e) rfl (fun k hk=>by cases hk; decide) rfl rfl rfl (Tu he).1 hE.nd (by rw [g2]; rfl) (by rw [g1]; rfl) ?_)
             rw [g2]
             refine Dd ?_
             simp (disch:=omega) only [amL,sA,↓reduceIte]
             refine hK33 _ ?_
             refine Ab fun K34 hK34=>?_
             refine Ah ?_
             simp (disch:=omega) only [amL,amT,sA,sB,sF,↓reduceIte]
             repeat' first | (refine Ax (by kernel_rfl) rfl (Agb (b.getD i default) n) (by first | exact .inl rfl | exact .inr (.inl rfl)) ?_ ; simp (disch:=omega) only [amL])
             refine hK34 _ ?_
             refine Al rfl (fun h=>?_) (fun h=>?_)
             ·first
              | exact Bool.noConfusion h
              |skip
               try simp only [Bool.not_eq_true',decide_eq_true_eq,decide_eq_false_iff_not,Bool.and_eq_true,Bool.not_eq_false',Bool.not_not,decide_not,Bool.not_true,Bool.not_false] at h
               refine Ab fun K35 hK35=>?_
               refine Ah ?_
               have hol:=Aob (S:=Ny l g sp) (b:=b) (k:=i)
               simp (disch:=omega) only [amL,amT,sA,sE,sF,↓reduceIte,reduceCtorEq]
               refine hK35 _ ?_
               refine Bq ?_
               refine hK27 _ ?_
               refine Ah ?_
               simp (disch:=omega) only [amL,amT,sA,sF,↓reduceIte]
               refine hK24 (i+1) _ ?_ ?_ (Dg ?_ ?_ ?_ ?_)
               all_goals (try simp (disch:=omega) only [amL,sF,sG,↓reduceIte])
               all_goals first | omega | (have e9:Jg (Ny l g sp) b (i+1)=Jg (Ny l g sp) b i:=Ahw (b:=b) (k:=i) (U0 hE hns (hz.elim (fun q=>q.2) (fun q=>by rw [q.1] at h; cases h))) ; rw [e9]; done) | (have e9:Jg (Ny l g sp) b (i+1)=Jg (Ny l g sp) b i++[i]:=Acl (List.any_eq_true.2 ⟨n,g3,h⟩) ; rw [e9] ; first | (rw [List.length_append]; rfl) | (rw [List.length_append]; exact ⟨rfl,rfl⟩) | (rw [List.map_append]; exact ⟨rfl,rfl⟩)) | trace_state
             ·first
              | exact Bool.noConfusion h
              |skip
               try simp only [Bool.not_eq_true',decide_eq_true_eq,decide_eq_false_iff_not,Bool.and_eq_true,Bool.not_eq_false',Bool.not_not,decide_not,Bool.not_true,Bool.not_false] at h
               refine Am ?_
               refine hK30 (seen.push e.born,clock) _ ?_ ?_ (Dg ?_ ?_ ?_ ?_)
               all_goals (try simp (disch:=omega) only [amL,sF,sG,↓reduceIte])
               all_goals first | exact Abw hE hns (Tu he).1 g2 (by assumption) | exact Ahz he | trace_state
           ·first
            | exact Bool.noConfusion h
            |skip
             try simp only [Bool.not_eq_true',decide_eq_true_eq,decide_eq_false_iff_not,Bool.and_eq_true,Bool.not_eq_false',Bool.not_not,decide_not,Bool.not_true,Bool.not_false] at h
             refine Bq ?_
             refine hK27 _ ?_
             refine Ah ?_
             simp (disch:=omega) only [amL,amT,sA,sF,↓reduceIte]
             refine hK24 (i+1) _ ?_ ?_ (Dg ?_ ?_ ?_ ?_)
             all_goals (try simp (disch:=omega) only [amL,sF,sG,↓reduceIte])
             all_goals first | omega | (have e9:Jg (Ny l g sp) b (i+1)=Jg (Ny l g sp) b i:=Ahw (b:=b) (k:=i) (U0 hE hns (hz.elim (fun q=>q.2) (fun q=>by rw [q.1] at h; cases h))) ; rw [e9]; done) | (have e9:Jg (Ny l g sp) b (i+1)=Jg (Ny l g sp) b i++[i]:=Acl (List.any_eq_true.2 ⟨n,g3,h⟩) ; rw [e9] ; first | (rw [List.length_append]; rfl) | (rw [List.length_append]; exact ⟨rfl,rfl⟩) | (rw [List.map_append]; exact ⟨rfl,rfl⟩)) | trace_state
         ·first
          | exact Bool.noConfusion h
          |skip
           try simp only [decide_eq_false_iff_not] at h
           refine Bq ?_
           refine hK22 _ ?_
           refine Ab fun K36 hK36=>?_
           refine Ah ?_
           simp (disch:=omega) only [amL,sA,sF,↓reduceIte]
           refine hK36 _ ?_
           refine Aj ?_
           try simp (disch:=omega) only [amL,sF,↓reduceIte]
           all_goals first | (rw [Ks,if_pos (by assumption)]; done) | (rw [Ks,if_neg (by omega),if_neg (P4 (by first | exact .inl (by assumption) | exact .inr (.inl (by assumption)) | exact .inr (.inr (by assumption))))]; done) | ((obtain rfl:i=b.length:=by omega) ; rw [Ks,if_neg (by omega),if_pos hmb,List.take_of_length_le (by simp)]; done) | trace_state
theorem c_wort (g k:Int):Bu Tryz.prog 82 [i64 g,i64 k] (bl (M3 g k)):=by
  refine Bo (v:=[]) (q:=[]) (N:=12) (rs:=[.tmp 4]) Tryz.func82 rfl rfl rfl rfl rfl ?_
  refine Ad fun K1 hK1=>?_
  simp (disch:=omega) only [amL,sA,sB]
  refine hK1 _ ?_
  refine Ad fun K2 hK2=>?_
  simp (disch:=omega) only [amL,sA,↓reduceIte,reduceCtorEq]
  repeat' first | (refine E3 (fun h=>?_) (fun h=>?_) <;> simp (disch:=omega) only [h,amL,amT,sA,sB,sC,sD,sE,sF,sG,sH,sI,sJ,sK,sL,sM,sN,sO,↓reduceIte,reduceCtorEq]) | (refine Cz (fun h=>?_) (fun h=>?_) <;> simp (disch:=omega) only [h,amL,sA,sF,↓reduceIte]) | (refine Ax (by kernel_rfl) rfl (Lb _ _ _) (by first | exact .inl rfl | exact .inr (.inl rfl)) ?_ ; simp (disch:=omega) only [amL,sA,↓reduceIte]) | (refine Ax (by kernel_rfl) rfl (Ahf) (by first | exact .inl rfl | exact .inr (.inl rfl)) ?_ ; simp (disch:=omega) only [amL,sA,sF,↓reduceIte,reduceCtorEq]) | (refine Ax (by kernel_rfl) rfl (Agb ⟨_,_⟩ _) (by first | exact .inl rfl | exact .inr (.inl rfl)) ?_ ; simp (disch:=omega) only [amL,sA,sF,↓reduceIte])
  all_goals
   skip
   refine hK2 _ ?_
   refine Aj ?_
   try simp (disch:=omega) only [amL,↓reduceIte]
   all_goals simp_all [M3,Jk]
theorem Aqv {g k:Int} {l:Liq} {n1 n2:Nat} {os:Nat→Option AO} {bd:Nat} (hl:R4 l) (h1:os n1=some (.cells [i64 g])) (h2:os n2=some (.cells [i64 k])) :
    Bh Tryz.prog bd (.fn (.func 117) [] [.ptr n1 0,.ptr n2 0]) [avL l] os fun res os'=>res=bl (decide (l.g=g)&&decide (Q8 l=k))∧os'=os:=by
  refine B3 (v:=[]) (q:=[]) (N:=15) (rs:=[.tmp 4]) Tryz.func117 rfl (by kernel_rfl) rfl rfl (fun hcl hfree=>?_)
  have hfr0:∀ k,os (bd+k)=none:=fun k=>hfree _ (by omega)
  have b1:=Ap hfree h1
  have b2:=Ap hfree h2
  refine Ad fun K1 hK1=>?_
  simp (disch:=omega) only [hfr0,amL,sA,sB,↓reduceIte]
  refine hK1 _ ?_
  refine Ab fun K2 hK2=>?_
  refine Cj (by kernel_rfl) (by kernel_rfl) ?_
  simp (disch:=omega) only [h1,Ac,amL,amT,sA,sF,↓reduceIte,reduceCtorEq]
  repeat' first | (refine E3 (fun h=>?_) (fun h=>?_) <;> simp (disch:=omega) only [h,amL,amT,sA,sB,sF,↓reduceIte]) | (refine Cz (fun h=>?_) (fun h=>?_) <;> simp (disch:=omega) only [h,h1,h2,hfr0,Ac,amL,amT,sA,sB,sC,sD,sE,sF,sG,sH,sI,sJ,sK,sL,sM,sN,sO,↓reduceIte,reduceCtorEq]) | (refine Ax (by kernel_rfl) rfl (Yz ⟨g,l.e⟩ (by rw [← h]; exact hl)) (by first | exact .inl rfl | exact .inr (.inl rfl)) ?_ ; simp (disch:=omega) only [h2,Ac,amL,amT,sA,sF,↓reduceIte,reduceCtorEq])
  all_goals
   skip
   refine hK2 _ ?_
   refine Aj ?_
   try simp (disch:=omega) only [amL]
   all_goals (refine A6 (res:=bl _) os (by simp (disch:=omega) only [amL,↓reduceIte]; try rfl) (by first | ((repeat' first | exact Sub.refl _ | refine Sub.skip (by first | exact hfr0 _ | (simp (disch:=omega) only [Ac]; exact hfr0 _)) ?_ | refine Sub.both ?_); done) | fail) hcl (AV.lives_p _ _) ⟨?_,rfl⟩ ; first | (subst h ; simp; done) | (simp [h]; done) | trace_state)
theorem sfL:Mf Tryz.prog 125 118 191 3 4 135 116:=⟨⟨_,Tryz.func135,rfl,rfl,rfl,by kernel_rfl⟩,⟨_,Tryz.func116,rfl,rfl,rfl,by kernel_rfl⟩⟩
theorem Aw1 {g k:Int} {l:List Liq} {n1 n2:Nat} (hl:∀ x ∈ l,R4 x):Hd Tryz.prog (.fn (.func 117) [] [.ptr n1 0,.ptr n2 0]) (fun n=>n=n1∨n=n2) avL l (fun (_:Unit) os=>os n1=some (.cells [i64 g])∧os n2=some (.cells [i64 k])) (fun _ x=>((),decide (x.g=g)&&decide (Q8 x=k))) where
  live s os h:=by rw [Fr,Cq,Cm,Cm,Cq,C8,C8,h.1,h.2]; exact ⟨trivial,rfl,rfl,trivial⟩
  stable s os os' h h2:=⟨(h2 n1 (.inl rfl)).trans h.1,(h2 n2 (.inr rfl)).trans h.2⟩
  foot s os n h hn:=by
    rcases hn with rfl | rfl
    · exact ⟨_,h.1,fun m hm=>by simp [AO.clean,AV.clean,AV.clean.cleanL] at hm⟩
    · exact ⟨_,h.2,fun m hm=>by simp [AO.clean,AV.clean,AV.clean.cleanL] at hm⟩
  call s x os bd hx h _:=by
    refine Bh.mono (Aqv (hl x hx) h.1 h.2) ?_
    rintro r os' ⟨rfl,rfl⟩
    exact ⟨rfl,h,fun _ _=>rfl⟩
theorem Aqp {v:List Liq} {n:Nat} {g k:Int} {n0 n1 n2:Nat} {os:Nat→Option AO} {bd:Nat} (hw:G1 v) (hv4:v.length=4) (hn:n≤4) (h0:os n0=some (.cells (cW v))) (h1:os n1=some (.cells [i64 g])) (h2:os n2=some (.cells [i64 k])) (d1:n0≠n1) (d2:n0≠n2) :
    Bh Tryz.prog bd (.fn (.func 116) [] []) [.csl n0 0 2 n,.fn (.func 117) [] [.ptr n1 0,.ptr n2 0]] os fun res os'=>res=bl (Wi n v g k)∧os'=os:=by
  have hlen:(v.take n).length=n:=by rw [List.length_take]; omega
  have hgd:∀ i,i < n→(v.take n).getD i default=v.getD i default:=fun i hi=>by
    simp only [List.getD]; rw [List.getElem?_take,if_pos hi]
  have ht:=Aw1 (g:=g) (k:=k) (l:=v.take n) (n1:=n1) (n2:=n2) (fun x hx=>by
    obtain ⟨i,hi,rfl⟩:=List.getElem_of_mem hx
    rw [List.getElem_eq_getD (fallback:=default),hgd i (by omega)]; exact hw i)
  have hc:=Axb (tS:=125) (sz:=2) (bd:=bd) (s:=()) (os:=os) (nb:=n0) (cs:=cW v) (by simp only [amT]) (by simp only [amT]; rfl) (by simp only [amT]) sfL (by omega) ht ⟨h1,h2⟩ h0 (fun h=>h.elim d1 d2) (fun i hi=>by rw [hgd i (by omega)]; exact Ke (by omega))
  rw [hlen] at hc
  refine Bh.mono hc ?_
  rintro r os' ⟨h1',h2',h3'⟩
  rw [Aby] at h1'
  refine ⟨h1',funext fun q=>?_⟩
  by_cases e1:q=n1
  · subst e1; rw [h2'.1,h1]
  · by_cases e2:q=n2
    · subst e2; rw [h2'.2,h2]
    · exact h3' q (fun h=>h.elim e1 e2)
theorem Ai5 {r:RB} {N:Nat} {s:St} {K:St→Prop} {dst:Option Nat} {ty:TypeId} {pos:String} {after:Array Edge} {g:Option (Nat × Bool)} {x:Operand} {lo hi:Option Operand}:EO Tryz.prog r N ⟨dst,.slice 120 x lo hi none,ty,pos,after,g⟩ s K=EOp r.b N dst s K (Aru (fun e=>(Aa Tryz.prog e).sz) (fun e=>(Aa Tryz.prog e).agg) 4 118 (ev s.t x) (Ba (ev s.t) 0 lo) (Ba (ev s.t) 4 hi)):=Y1 (by rw [Ahv])
theorem Aqx {vs:List Ves} {ss:List Stp} {v:List Liq} {g k:Int} {nw m:Nat} {os:Nat→Option AO} {bd:Nat} (ow:os nw=some (.cells [.p (slV vs),.p (slS ss),.mp m])) (hvs:vs.length≤4) (hw:G1 v) (hv4:v.length=4) :
    Bh Tryz.prog bd (.fn (.func 84) [] []) [.ptr nw 0,avW v,i64 g,i64 k] os fun res os'=>res=bl (Wi vs.length v g k)∧os'=os:=by
  refine B3 (v:=[116]) (q:=[]) (N:=18) (rs:=[.tmp 8]) Tryz.func84 rfl (by kernel_rfl) rfl rfl (fun hcl hfree=>?_)
  have hfr0:∀ k,os (bd+k)=none:=fun k=>hfree _ (by omega)
  have hlw:=Ap hfree ow
  refine Ad fun K1 hK1=>?_
  simp (disch:=omega) only [hfr0,Ac,amL,sA,sB,sF,↓reduceIte,reduceCtorEq]
  refine hK1 _ ?_
  refine Ad fun K2 hK2=>?_
  simp (disch:=omega) only [ow,Ac,Ai5,B1,Bl,Bk,B4,Int.sub_zero,Int.toNat_natCast,amL,amT,sA,sF,sH,sK,sL,sN,↓reduceIte,reduceCtorEq]
  refine A2 [] (by decide) (Aqp (v:=v) (n:=vs.length) (g:=g) (k:=k) (bd:=bd+18) hw hv4 hvs (by simp (disch:=omega) only [Ac,amL]) (by simp (disch:=omega) only [Ac,amL]) (by simp (disch:=omega) only [amL]) (by omega) (by omega)) (fun q hq=>by simp (disch:=omega) only [Ac]; exact hfree q (by omega)) (Nat.le_add_right _ _) (fun res os2 hR hcl2 hlv2=>?_)
  obtain ⟨rfl,rfl⟩:=hR
  simp (disch:=omega) only [amL,sA,↓reduceIte]
  refine hK2 _ ?_
  refine Aj ?_
  try simp (disch:=omega) only [amL]
  refine A6 (res:=bl _) os (by simp (disch:=omega) only [amL,↓reduceIte]; try rfl) (by first | ((repeat' first | exact Sub.refl _ | refine Sub.skip (by first | exact hfr0 _ | (simp (disch:=omega) only [Ac]; exact hfr0 _)) ?_ | refine Sub.both ?_); done) | fail) hcl (AV.lives_p _ _) ⟨rfl,rfl⟩
theorem Aqr {v:List Liq} {nw:Nat} {os:Nat→Option AO} {bd:Nat} (hw:(os nw).isSome=true) :
    Bh Tryz.prog bd (.fn (.func 85) [] []) [.ptr nw 0,avW v] os fun res os'=>res=.fn (.func 118) [] [.ptr (bd+2) 0,.ptr (bd+3) 0]∧os'=upd (upd os (bd+2) (some (.cells [.ptr nw 0]))) (bd+3) (some (.cells (cW v))):=by
  refine B3 (v:=[]) (q:=[]) (N:=6) (rs:=[.tmp 4]) Tryz.func85 rfl (by kernel_rfl) rfl rfl (fun hcl hfree=>?_)
  have hfr0:∀ k,os (bd+k)=none:=fun k=>hfree _ (by omega)
  have hb:nw < bd:=by
    cases Nat.lt_or_ge nw bd with
    | inl h=>exact h
    | inr h=>rw [hfree nw h] at hw; cases hw
  refine Ad fun K1 hK1=>?_
  simp (disch:=omega) only [hfr0,Ac,amL,sA,sB,sF,↓reduceIte,reduceCtorEq]
  refine hK1 _ ?_
  refine Ad fun K2 hK2=>?_
  simp (disch:=omega) only [amL,sA,sF,↓reduceIte]
  refine hK2 _ ?_
  refine Aj ?_
  try simp (disch:=omega) only [amL]
  refine A6 (res:=.fn (.func 118) [] [.ptr (bd+2) 0,.ptr (bd+3) 0]) (upd (upd os (bd+2) (some (.cells [.ptr nw 0]))) (bd+3) (some (.cells (cW v)))) (by simp (disch:=omega) only [amL,↓reduceIte]; try rfl) (Sub.refl _) (Ee (Cs hcl ?_)) ?_ ⟨rfl,rfl⟩
  · rw [Dw]; simp (disch:=omega) only [Cq,Cm,C8,Ac,hw,and_self]
  · rw [Fr]; simp (disch:=omega) only [Cq,Cm,C8,Ac,Bc,Option.isSome_some,and_self]
theorem Pk {f t n:Nat} {c:Nat} (h:n < c):Qs f t (c - n) n=Cy f t n :: Qs f t (c - (n+1)) (n+1):=by
  rw [show c - n=(c - (n+1))+1 by omega]; rfl
theorem Ajl {f t n:Nat} {c:Nat} (h:c≤n):Qs f t (c - n) n=[]:=by rw [show c - n=0 by omega]; rfl
theorem Aes {vs:List Ves} {v:List Liq} {f t:Nat} {c:Nat} (h:t < c):N4 vs v f (c - t) t=Qs f t ((Fw vs v f t).toNat - 0) 0++N4 vs v f (c - (t+1)) (t+1):=by
  rw [show c - t=(c - (t+1))+1 by omega]; rfl
theorem Akx {vs:List Ves} {v:List Liq} {f t:Nat} {c:Nat} (h:c≤t):N4 vs v f (c - t) t=[]:=by rw [show c - t=0 by omega]; rfl
theorem Aep {vs:List Ves} {v:List Liq} {f:Nat} {c:Nat} (h:f < c):N5 vs v (c - f) f=N4 vs v f (vs.length - 0) 0++N5 vs v (c - (f+1)) (f+1):=by
  rw [show c - f=(c - (f+1))+1 by omega]; rfl
theorem Y7 {vs:List Ves} {v:List Liq} {f:Nat} {c:Nat} (h:c≤f):N5 vs v (c - f) f=[]:=by rw [show c - f=0 by omega]; rfl
theorem Aog {vs:List Ves} {ss:List Stp} {v:List Liq} {n1 n2 nw m:Nat} {yv:AV} {F:Nat→Prop} {σ:Type} {go:σ→Prop} {I:σ→(Nat→Option AO)→Prop} {step:σ→Stp→σ × Bool} (hY:Ahk Tryz.prog yv F avS (Gi vs v) go I step) (hst:∀ s os,I s os→os n1=some (.cells [.ptr nw 0])∧os n2=some (.cells (cW v))∧os nw=some (.cells [.p (slV vs),.p (slS ss),.mp m])) (hv:OkV v) (hvs:vs.length≤4) (hva:vs.all Er=true) {s:σ} {os:Nat→Option AO} {bd:Nat} (hg:go s) (hI:I s os) :
    Bh Tryz.prog bd (.fn (.func 118) [] [.ptr n1 0,.ptr n2 0]) [yv] os fun res os'=>res=.tup []∧I (Gn step s (Gi vs v)).1 os'∧∀ n,¬ F n→os' n=os n:=by
  refine B3 (v:=[]) (q:=[]) (N:=66) (rs:=[]) Tryz.func118 rfl (by kernel_rfl) rfl rfl (fun hcl hfree=>?_)
  have hF:∀ n,F n→n < bd:=fun n hn=>by obtain ⟨o,h,_⟩:=hY.foot s os n hI hn; exact Ap hfree h
  have hfreeI:∀ (os1:Nat→Option AO),(∀ n,¬ F n→os1 n=os n)→∀ n,bd≤n→os1 n=none:=fun os1 h2 n hn=>by
    rw [h2 n (fun h=>by have:=hF n h; omega)]; exact hfree n hn
  have hl4:=hv.len
  have hlv:=hY.live _ _ hI
  obtain ⟨z1,z2,zw⟩:=hst _ _ hI
  have b1:=Ap hfree z1
  have b2:=Ap hfree z2
  have bw:=Ap hfree zw
  refine Ad fun K1 hK1=>?_
  simp (disch:=omega) only [z1,zw,amL,amT,sA,sB,↓reduceIte,reduceCtorEq]
  refine hK1 _ ?_
  refine Au ?_
  skip
  refine Bg (α:=Nat × σ × (Nat→Option AO)) (fun x=>⟨T [(0,yv),(1,.ptr n1 0),(2,.ptr n2 0),(15,i64 vs.length),(16,i64 (x.1:Int))],x.2.2⟩) (fun x=>vs.length - x.1) (fun x=>x.1≤vs.length∧go x.2.1∧I x.2.1 x.2.2∧(Hp x.2.2).closed∧(∀ n,¬ F n→x.2.2 n=os n)∧Gn step x.2.1 (N5 vs v (vs.length - x.1) x.1)=Gn step s (Gi vs v)) (0,s,os) ?_ ?_ (fun x hx2 K2 hK2=>?_)
  · exact ⟨by simp,hg,hI,hcl,fun _ _=>rfl,rfl⟩
  · refine G9 ?_ ?_ ?_ ?_ <;> (try simp (disch:=omega) only [amL,sF,↓reduceIte,reduceCtorEq]); all_goals first | exact Sub.refl _ | exact hcl | exact ⟨hlv,by rw [z1]; rfl,by rw [z2]; rfl⟩ | trace_state
  obtain ⟨f,s1,os1⟩:=x; dsimp only at hx2 ⊢; obtain ⟨hk,hg1,hI1,hcl1,hfrm1,hall⟩:=hx2; obtain ⟨o1,o2,ow⟩:=hst _ _ hI1; have hlv1:=hY.live _ _ hI1
  refine Ad fun K3 hK3=>?_
  simp (disch:=omega) only [amL,amT,sA,sF,↓reduceIte,reduceCtorEq]
  refine hK3 _ ?_
  refine Ab fun K4 hK4=>?_
  refine Al rfl (fun h=>MT.x ?_) (fun h=>ME.x ?_)
  all_goals
   first
   |refine MT.mk ?_
    first
    |exact Bool.noConfusion h
    |skip
     try simp only [nrm] at h
     refine Am ?_
     refine hK4 _ ?_
   |refine ME.mk ?_
    first
    |exact Bool.noConfusion h
    |skip
     try simp only [nrm] at h
     refine Bq ?_
     try simp (disch:=omega) only [Ac,Dj,Jm,A0,Su,Pa,Ly,H6,Fh,amL,amT,sA,sB,sC,sD,sE,sF,sG,sH,sI,sJ,sK,sL,sM,sN,sO,↓reduceIte,reduceCtorEq]
     first | (refine A6 (res:=.tup []) os4 rfl (Sub.refl _) hcl4 (A9 _ rfl) ⟨rfl,?_,fun q hq=>(hfr4 q hq).trans (hfrm3 q hq)⟩ ; rw [← hall3,Pk (by omega),List.cons_append] ; simp only [Gn] ; rw [if_neg (by rw [h]; decide)] ; exact hI4) | (refine A6 (res:=.tup []) os1 rfl (Sub.refl _) hcl1 (A9 _ rfl) ⟨rfl,?_,hfrm1⟩ ; rw [← hall,Y7 (by omega)] ; exact hI1) | trace_state
  all_goals
   skip
   refine Ab fun K5 hK5=>?_
   refine Au ?_
   refine Ad fun K6 hK6=>?_
   simp (disch:=omega) only [amL,sA,sF,↓reduceIte,reduceCtorEq]
   refine hK6 _ ?_
   refine Ad fun K7 hK7=>?_
   simp (disch:=omega) only [o1,ow,amL,amT,sA,sF,↓reduceIte,reduceCtorEq]
   refine hK7 _ ?_
   refine Au ?_
   skip
   refine Bg (α:=Nat × σ × (Nat→Option AO)) (fun x=>⟨T [(0,yv),(1,.ptr n1 0),(2,.ptr n2 0),(15,i64 vs.length),(16,i64 (f:Int)),(4,i64 (f:Int)),(23,.p (slV vs)),(24,i64 vs.length),(25,i64 (x.1:Int))],x.2.2⟩) (fun x=>vs.length - x.1) (fun x=>x.1≤vs.length∧go x.2.1∧I x.2.1 x.2.2∧(Hp x.2.2).closed∧(∀ n,¬ F n→x.2.2 n=os n)∧Gn step x.2.1 (N4 vs v f (vs.length - x.1) x.1++N5 vs v (vs.length - (f+1)) (f+1))=Gn step s (Gi vs v)) (0,s1,os1) ?_ ?_ (fun x hx8 K8 hK8=>?_)
   · exact ⟨Nat.zero_le _,hg1,hI1,hcl1,hfrm1,by have e:=hall; rw [Aep (by omega)] at e; exact e⟩
   · refine G9 ?_ ?_ ?_ ?_ <;> (try simp (disch:=omega) only [amL,sF,↓reduceIte,reduceCtorEq]); all_goals first | exact Sub.refl _ | exact hcl1 | exact ⟨hlv1,by rw [o1]; rfl,by rw [o2]; rfl⟩ | trace_state
   obtain ⟨t,s2,os2⟩:=x; dsimp only at hx8 ⊢; obtain ⟨hk2,hg2,hI2,hcl2,hfrm2,hall2⟩:=hx8; obtain ⟨o1,o2,ow⟩:=hst _ _ hI2; have hfr0:∀ k,os2 (bd+k)=none:=fun k=>hfreeI os2 hfrm2 _ (by omega); have hlv2:=hY.live _ _ hI2
   refine Ad fun K9 hK9=>?_
   simp (disch:=omega) only [amL,amT,sA,sF,↓reduceIte,reduceCtorEq]
   refine hK9 _ ?_
   refine Ab fun K10 hK10=>?_
   refine Al rfl (fun h=>MT.x ?_) (fun h=>ME.x ?_)
   all_goals
    first
    |refine MT.mk ?_
     first
     |exact Bool.noConfusion h
     |skip
      try simp only [nrm] at h
      refine Am ?_
      refine hK10 _ ?_
    |refine ME.mk ?_
     first
     |exact Bool.noConfusion h
     |skip
      try simp only [nrm] at h
      refine Bq ?_
      refine hK5 _ ?_
      refine Ah ?_
      simp (disch:=omega) only [amL,amT,sA,sF,↓reduceIte,reduceCtorEq]
      refine hK2 (f+1,s2,os2) _ ?_ ?_ (G9 ?_ ?_ ?_ ?_)
      all_goals (try simp (disch:=omega) only [amL,sF,↓reduceIte,reduceCtorEq])
      all_goals first | omega | exact Sub.refl _ | exact hcl2 | exact ⟨hlv2,by rw [o1]; rfl,by rw [o2]; rfl⟩ | exact ⟨by omega,hg2,hI2,hcl2,hfrm2,by have e:=hall2; rw [Akx (by omega)] at e; exact e⟩ | trace_state
   all_goals
    skip
    refine Ab fun K11 hK11=>?_
    refine Au ?_
    refine Ad fun K12 hK12=>?_
    simp (disch:=omega) only [hfr0,Dj,amL,amT,sA,sB,sF,↓reduceIte,reduceCtorEq]
    refine hK12 _ ?_
    refine Ab fun K13 hK13=>?_
    refine Cj (by kernel_rfl) (by kernel_rfl) ?_
    have hrm:=Agx hva (k:=t) (by omega)
    have hr0:=Asg hva (k:=t) (by omega)
    have g1:=hv.g f
    have g2:=hv.g t
    have hmo:Fw vs v f t≤60:=by unfold Fw B6; split <;> omega
    simp (disch:=omega) only [o2,Ac,Jm,amL,amT,sA,sF,sH,↓reduceIte,reduceCtorEq]
    refine hK13 _ ?_
    refine Ab fun K14 hK14=>?_
    refine Ad fun K15 hK15=>?_
    simp (disch:=omega) only [amL,amT,sA,sF,↓reduceIte,reduceCtorEq]
    refine hK15 _ ?_
    refine Al rfl (fun h=>MT.x ?_) (fun h=>ME.x ?_)
    all_goals
     first
     |refine MT.mk ?_
      first
      |exact Bool.noConfusion h
      |skip
       try simp only [nrm] at h
       refine Mm 5 ?_
       simp (disch:=omega) only [o2,Ac,Jm,Su,Pa,Ly,H6,Fh,amL,amT,sA,sB,sE,sF,sH,↓reduceIte,reduceCtorEq]
       repeat' first | (refine Ax (by kernel_rfl) rfl (X1 _ _) (by first | exact .inl rfl | exact .inr (.inl rfl)) ?_ ; simp (disch:=omega) only [amL,sA,↓reduceIte])
       refine hK14 _ ?_
     |refine ME.mk ?_
      first
      |exact Bool.noConfusion h
      |skip
       try simp only [nrm] at h
       refine Am ?_
       refine hK14 _ ?_
    all_goals
     skip
     refine Ad fun K16 hK16=>?_
     simp (disch:=omega) only [amL,sA,sF,↓reduceIte]
     refine hK16 _ ?_
     refine Au ?_
     skip
     refine Bg (α:=Nat × σ × (Nat→Option AO)) (fun x=>⟨T [(0,yv),(1,.ptr n1 0),(2,.ptr n2 0),(15,i64 vs.length),(16,i64 (f:Int)),(4,i64 (f:Int)),(23,.p (slV vs)),(24,i64 vs.length),(25,i64 (t:Int)),(5,i64 (t:Int)),(8,i64 (if f≠t then 0 else 1)),(47,i64 (Fw vs v f t)),(48,i64 (x.1:Int))],x.2.2⟩) (fun x=>(Fw vs v f t).toNat - x.1) (fun x=>x.1≤(Fw vs v f t).toNat∧go x.2.1∧I x.2.1 x.2.2∧(Hp x.2.2).closed∧(∀ n,¬ F n→x.2.2 n=os n)∧Gn step x.2.1 (Qs f t ((Fw vs v f t).toNat - x.1) x.1++(N4 vs v f (vs.length - (t+1)) (t+1)++N5 vs v (vs.length - (f+1)) (f+1)))=Gn step s (Gi vs v)) (0,s2,os2) ?_ ?_ (fun x hx17 K17 hK17=>?_)
     · exact ⟨Nat.zero_le _,hg2,hI2,hcl2,hfrm2,by have e:=hall2; rw [Aes (by omega),List.append_assoc] at e; exact e⟩
     · refine G9 ?_ ?_ ?_ ?_ <;> (try simp (disch:=omega) only [amL,sF,↓reduceIte,reduceCtorEq]); all_goals first | exact (by first | ((repeat' first | exact Sub.refl _ | refine Sub.skip (by first | exact hfr0 _ | (simp (disch:=omega) only [Ac]; exact hfr0 _)) ?_ | refine Sub.both ?_); done) | fail) | exact Sub.refl _ | exact hcl2 | exact ⟨hlv2,by rw [o1]; rfl,by rw [o2]; rfl⟩ | exact congrArg i64 (by unfold Fw B6; rw [if_pos (by omega)]) | exact congrArg i64 (by unfold Fw B6; rw [if_neg (by omega)]) | trace_state
     obtain ⟨n,s3,os3⟩:=x; dsimp only at hx17 ⊢; obtain ⟨hk3,hg3,hI3,hcl3,hfrm3,hall3⟩:=hx17; obtain ⟨o1,o2,ow⟩:=hst _ _ hI3; have hfr0:∀ k,os3 (bd+k)=none:=fun k=>hfreeI os3 hfrm3 _ (by omega); have hlv3:=hY.live _ _ hI3
     refine Ad fun K18 hK18=>?_
     simp (disch:=omega) only [amL,amT,sA,sF,↓reduceIte,reduceCtorEq]
     refine hK18 _ ?_
     refine Ab fun K19 hK19=>?_
     refine Al rfl (fun h=>MT.x ?_) (fun h=>ME.x ?_)
     all_goals
      first
      |refine MT.mk ?_
       first
       |exact Bool.noConfusion h
       |skip
        try simp only [nrm] at h
        refine Am ?_
        refine hK19 _ ?_
      |refine ME.mk ?_
       first
       |exact Bool.noConfusion h
       |skip
        try simp only [nrm] at h
        refine Bq ?_
        refine hK11 _ ?_
        refine Ah ?_
        simp (disch:=omega) only [amL,amT,sA,sF,↓reduceIte,reduceCtorEq]
        refine hK8 (t+1,s3,os3) _ ?_ ?_ (G9 ?_ ?_ ?_ ?_)
        all_goals (try simp (disch:=omega) only [amL,sF,↓reduceIte,reduceCtorEq])
        all_goals first | omega | exact Sub.refl _ | exact hcl3 | exact ⟨hlv3,by rw [o1]; rfl,by rw [o2]; rfl⟩ | exact ⟨by omega,hg3,hI3,hcl3,hfrm3,by have e:=hall3; rw [Ajl (by omega)] at e; exact e⟩ | trace_state
     all_goals
      skip
      refine Ab fun K20 hK20=>?_
      refine Au ?_
      refine Ad fun K21 hK21=>?_
      simp (disch:=omega) only [amL,sA,sF,↓reduceIte,reduceCtorEq]
      refine hK21 _ ?_
      refine Ad fun K22 hK22=>?_
      simp (disch:=omega) only [amL,amT,sA,sB,sE,sF,↓reduceIte,reduceCtorEq]
      have hx:Cy f t n ∈ Gi vs v:=Alj (by omega) (by omega) (by omega)
      have hcall:=hY.call s3 (Cy f t n) os3 bd hx hg3 hI3 hcl3
      first
        | (rw [Am7 (by omega)] at hcall ; refine A2 [(0,yv),(1,.ptr n1 0),(2,.ptr n2 0),(15,i64 vs.length),(16,i64 (f:Int)),(4,i64 (f:Int)),(23,.p (slV vs)),(24,i64 vs.length),(25,i64 (t:Int)),(5,i64 (t:Int)),(8,i64 0),(47,i64 (Fw vs v f t)),(48,i64 (n:Int))] (by decide) hcall (hfreeI os3 hfrm3) (Nat.le_refl _) (fun res os4 hR hcl4 hlvr=>?_))
        | (rw [Akg (by omega)] at hcall ; refine A2 [(0,yv),(1,.ptr n1 0),(2,.ptr n2 0),(15,i64 vs.length),(16,i64 (f:Int)),(4,i64 (f:Int)),(23,.p (slV vs)),(24,i64 vs.length),(25,i64 (t:Int)),(5,i64 (t:Int)),(8,i64 1),(47,i64 (Fw vs v f t)),(48,i64 (n:Int))] (by decide) hcall (hfreeI os3 hfrm3) (Nat.le_refl _) (fun res os4 hR hcl4 hlvr=>?_))
      obtain ⟨rfl,hI4,hfr4⟩:=hR
      have hlv4:=hY.live _ _ hI4
      obtain ⟨p1,p2,pw⟩:=hst _ _ hI4
      simp (disch:=omega) only [amL,sA,sF,↓reduceIte,reduceCtorEq]
      refine ⟨⟨hlv4,by rw [p1]; rfl,by rw [p2]; rfl⟩,?_⟩
      refine hK22 _ ?_
      refine Al rfl (fun h=>MT.x ?_) (fun h=>ME.x ?_)
      all_goals
       first
       |refine MT.mk ?_
        first
        |exact Bool.noConfusion h
        |skip
         try simp only [nrm] at h
         refine Aj ?_
         try simp (disch:=omega) only [amL]
         first | (refine A6 (res:=.tup []) os4 rfl (Sub.refl _) hcl4 (A9 _ rfl) ⟨rfl,?_,fun q hq=>(hfr4 q hq).trans (hfrm3 q hq)⟩ ; rw [← hall3,Pk (by omega),List.cons_append] ; simp only [Gn] ; rw [if_neg (by rw [h]; decide)] ; exact hI4) | (refine A6 (res:=.tup []) os1 rfl (Sub.refl _) hcl1 (A9 _ rfl) ⟨rfl,?_,hfrm1⟩ ; rw [← hall,Y7 (by omega)] ; exact hI1) | trace_state
       |refine ME.mk ?_
        first
        |exact Bool.noConfusion h
        |skip
         try simp only [nrm] at h
         refine Am ?_
         refine hK20 _ ?_
      all_goals
       skip
       refine Ah ?_
       simp (disch:=omega) only [amL,amT,sA,sF,↓reduceIte,reduceCtorEq]
       refine hK17 (n+1,(step s3 (Cy f t n)).1,os4) _ ?_ ?_ (G9 ?_ ?_ ?_ ?_)
       all_goals (try simp (disch:=omega) only [amL,sF,↓reduceIte,reduceCtorEq])
       all_goals first | omega | exact Sub.refl _ | exact hcl4 | exact ⟨hlv4,by rw [p1]; rfl,by rw [p2]; rfl⟩ | exact ⟨by omega,hY.next _ _ hx hg3 h,hI4,hcl4,fun q hq=>(hfr4 q hq).trans (hfrm3 q hq),by have e:=hall3; rw [Pk (by omega),List.cons_append] at e; simp only [Gn] at e; rwa [if_pos h] at e⟩ | trace_state
theorem Nt {os:Nat→Option AO} {n k:Nat} {es:List (List PV)} (hcl:(Hp os).closed):(Hp (upd os n (some (.arr k es)))).closed:=Cs hcl (AO.lives_arr _ _ _)
theorem Xo {vs:List Ves} {k:Nat} (h:k < vs.length) (hb:1 < Fa (vs.getD k default).g∨1 < Fa (vs.getD k default).d):Kk vs=false:=by
  unfold Kk
  rw [List.all_eq_false]
  refine ⟨vs.getD k default,Du default h,?_⟩
  rcases hb with hb | hb <;> simp only [hb,decide_true,Bool.true_or,Bool.or_true,Bool.not_true] <;> decide
theorem Xr {vs:List Ves} (hva:vs.all Er=true) (k:Nat):(0≤(vs.map (·.g.lo)).getD k 0∧(vs.map (·.g.lo)).getD k 0≤100000)∧(0≤(vs.map (·.d.lo)).getD k 0∧(vs.map (·.d.lo)).getD k 0≤100000):=by
  by_cases hk:k < vs.length
  · have hb:=C9 (List.all_eq_true.1 hva _ (Du default hk))
    have h1:=Da hb.1
    have h2:=Da hb.2.1
    rw [Cp (·.g.lo) 0 default hk,Cp (·.d.lo) 0 default hk]
    constructor <;> constructor <;> first | exact h1.1 | exact h2.1 | (show _≤_; omega)
  · have e1:(vs.map (·.g.lo)).getD k 0=0:=by simp [List.getD,List.getElem?_eq_none (show vs.length≤k by omega)]
    have e2:(vs.map (·.d.lo)).getD k 0=0:=by simp [List.getD,List.getElem?_eq_none (show vs.length≤k by omega)]
    rw [e1,e2]; omega
def Ad4 (vs:List Ves):AV:=if Kk vs=true then .tup [avW (C3 vs).1,bl true,bl (C3 vs).2] else .tup [avW v0,bl false,bl false]
theorem Agi {α:Type} {l:List α} {f:α→Int}:isl (l.map f)=.p (.sl (l.map fun x=>J3 (f x))):=by
  show AV.p (.sl ((l.map f).map _))=_
  rw [List.map_map]; rfl
theorem Rv:∀ {vs:List Ves} {gs ds:List Int} {i:Nat} {v:List Liq},(Gb vs gs ds i v).1.length=v.length
  | [],_,_,_,_=>rfl
  | x :: vs,gs,ds,i,v=>by
    unfold Gb
    split
    · rfl
    · rw [Rv,List.length_set]
theorem Jo {P:Program} {s:St} {i j k n off:Nat} {ty:TypeId} {g:Bool} {cs:List AV} {x:AV} (h1:s.t i=.ptr n off) (h2:(Aa P ty).agg=some g) (h3:s.o n=some (.cells cs)) (h4:Ai g (Aa P ty).sz (cs.drop off)=some x):(Cw P s [.cell i ty,.tmp j,.tmp k]).map Df=some (.tup [x,s.t j,s.t k]):=by
  simp only [Cw,F1,h1,h2,h3,h4,Option.map_some]; rfl
theorem Kw {n:Nat} (v:List Liq):(cW v).map (AV.purge n)=cW v:=Lo ((Be n _).2 fun _ _ hx=>Nw (P2 hx) n)
theorem Tt (v:List Liq) (b c:Bool):(AV.tup [avW v,bl b,bl c]).isP=true:=by
  have h:AV.isP.isPL (cW v)=true:=(Je _).2 fun i x hx=>P2 hx
  simp only [AV.isP,AV.isP.isPL,h,Bool.and_self]
theorem Ads {vs:List Ves} (h:∀ j,j < vs.length→¬ 1 < Fa (vs.getD j default).g∧¬ 1 < Fa (vs.getD j default).d):Kk vs=true:=by
  unfold Kk
  rw [List.all_eq_true]
  intro x hx
  obtain ⟨j,hj,rfl⟩:=List.getElem_of_mem hx
  have:=h j hj
  rw [← List.getElem_eq_getD (h:=hj)] at this
  simp [this.1,this.2]
theorem Aqa {vs:List Ves} {ss:List Stp} {nw m:Nat} {os:Nat→Option AO} {bd:Nat} (hW:Wk vs ss nw m os) (hvs:vs.length≤4) (hva:vs.all Er=true) :
    Bh Tryz.prog bd (.fn (.func 81) [] []) [.ptr nw 0] os fun res os'=>res=Ad4 vs∧os'=os:=by
  refine B3 (v:=[101]) (q:=[]) (N:=52) (rs:=[.cell 2 120,.tmp 3,.tmp 4]) Tryz.func81 rfl (by kernel_rfl) rfl rfl (fun hcl hfree=>?_)
  have hfr0:∀ k,os (bd+k)=none:=fun k=>hfree _ (by omega)
  have ow:=hW.ow
  have hpg:∀ k,pgO (bd+k) os=os:=fun k=>Adf hcl (hfr0 k)
  have hv0t:(cW v0).take 8=cW v0:=rfl
  have hlw:=Ap hfree ow
  refine Ad fun K1 hK1=>?_
  simp (disch:=(first | assumption | omega)) only [hfr0,amL,amT,sA,sB,↓reduceIte]
  refine hK1 _ ?_
  refine Ad fun K2 hK2=>?_
  simp (disch:=(first | assumption | omega)) only [amL,sA]
  refine hK2 _ ?_
  refine Ab fun K3 hK3=>?_
  refine Ad fun K4 hK4=>?_
  simp (disch:=(first | assumption | omega)) only [ow,Ac,amL,amT,sA,↓reduceIte,reduceCtorEq]
  refine hK4 _ ?_
  refine Au ?_
  refine T1 (bd+35) 1 5 (by simp only []; omega) rfl (by simp (disch:=omega) only [Ac]; exact hfr0 _) ?_
  refine T1 (bd+41) 1 6 (by simp only []; omega) rfl (by simp (disch:=omega) only [Ac]; exact hfr0 _) ?_
  refine Bg (α:=Nat) (fun k=>⟨T [(0,.ptr nw 0),(2,.ptr (bd+2) 0),(5,.own (bd+35) k),(6,.own (bd+41) k),(13,.p (slV vs)),(14,i64 vs.length),(15,i64 (k:Int))],upd (upd (upd os (bd+2) (some (.cells (cW v0)))) (bd+35) (some (.arr 1 ((vs.take k).map fun x=>J3 x.g.lo)))) (bd+41) (some (.arr 1 ((vs.take k).map fun x=>J3 x.d.lo)))⟩) (fun k=>vs.length - k) (fun k=>k≤vs.length∧∀ j,j < k→¬ 1 < Fa (vs.getD j default).g∧¬ 1 < Fa (vs.getD j default).d) 0 ?_ ?_ (fun k hx5 K5 hK5=>?_)
  · exact ⟨Nat.zero_le _,fun j hj=>absurd hj (Nat.not_lt_zero _)⟩
  · refine G9 ?_ ?_ ?_ ?_ <;> (try simp (disch:=(first | assumption | omega)) only [ow,Ac,List.map_nil,amL,sF,↓reduceIte,reduceCtorEq]); all_goals first | exact Sub.refl _ | exact Nt (Nt (Ee hcl)) | trace_state
  obtain ⟨hk,hone⟩:=hx5
  refine Ad fun K6 hK6=>?_
  simp (disch:=(first | assumption | omega)) only [amL,amT,sA,sF,↓reduceIte,reduceCtorEq]
  refine hK6 _ ?_
  refine Ab fun K7 hK7=>?_
  refine Al rfl (fun h=>MT.x ?_) (fun h=>ME.x ?_)
  all_goals
   first
   |refine MT.mk ?_
    first
    |exact Bool.noConfusion h
    |skip
     try simp only [nrm] at h
     refine Am ?_
     refine hK7 _ ?_
   |refine ME.mk ?_
    first
    |exact Bool.noConfusion h
    |skip
     try simp only [nrm] at h
     refine Bq ?_
     refine hK3 _ ?_
     refine Ab fun K8 hK8=>?_
     obtain rfl:k=vs.length:=by omega
     rw [List.take_length]
     have d1:(nw=bd+41)=False:=eq_false (by omega)
     have d2:(nw=bd+35)=False:=eq_false (by omega)
     have hcb:=Ahn (bd:=bd+52) (os:=upd os (bd+2) (some (.cells (cW v0)))) (gs:=vs.map (·.g.lo)) (ds:=vs.map (·.d.lo)) ⟨(Ac (by omega)).trans hW.ow,(Ac (by have:=Ap hfree hW.om; omega)).trans hW.om⟩ hvs (List.length_map _) (List.length_map _) (fun k=>(Xr hva k).1) (fun k=>(Xr hva k).2)
     rw [Agi,Agi] at hcb
     have hl4:(M7 vs (vs.map (·.g.lo)) (vs.map (·.d.lo))).1.length=4:=Rv
     refine Acv (Nt (Ee hcl)) (by simp (disch:=omega) only [Ac]; exact hfr0 _) ?_
     simp only [Wr,AV.frz,d1,Nat.add_left_cancel_iff,Nat.reduceEqDiff,if_false,List.length_map,Nat.le_refl,if_true]
     refine Acv (Ee hcl) (by simp (disch:=omega) only [Ac]; exact hfr0 _) ?_
     simp only [Wr,AV.frz,d2,Nat.add_left_cancel_iff,Nat.reduceEqDiff,if_false,List.length_map,Nat.le_refl,if_true]
     rw [List.take_of_length_le (Nat.le_of_eq (List.length_map _)),List.take_of_length_le (Nat.le_of_eq (List.length_map _))]
     refine Ah ?_
     simp (disch:=(first | assumption | omega)) only [List.map_cons,List.map_nil,amL,sA,sF,↓reduceIte,reduceCtorEq]
     refine A2 [(2,.ptr (bd+2) 0)] (by decide) hcb (fun q hq=>by simp (disch:=omega) only [Ac]; exact hfree q (by omega)) (Nat.le_add_right _ _) (fun res os2 hR hcl2 hlv2=>?_)
     obtain ⟨rfl,rfl⟩:=hR
     simp (disch:=(first | assumption | omega)) only [Bz,Cb,A0,amL,amT,sA,sB,sC,sF,↓reduceIte,reduceCtorEq]
     refine hK8 _ ?_
     refine Ad fun K9 hK9=>?_
     simp (disch:=(first | assumption | omega)) only [Bz,Cb,A0,Br,amL,amT,sA,sF,↓reduceIte]
     refine hK9 _ ?_
     refine Aj ?_
     try simp (disch:=(first | assumption | omega)) only [amL]
     all_goals first
       | (refine A6 (res:=.tup [avW v0,bl false,bl false]) os ?_ (by first | ((repeat' first | exact Sub.refl _ | refine Sub.skip (by first | exact hfr0 _ | (simp (disch:=omega) only [Ac]; exact hfr0 _)) ?_ | refine Sub.both ?_); done) | fail) hcl (A9 _ (Tt _ _ _)) ⟨?_,rfl⟩
          · refine (Jo (n:=bd+2) (off:=0) (g:=true) (cs:=cW v0) (x:=avW v0) (by simp (disch:=(first | assumption | omega)) only [amL,sF,↓reduceIte]) (by simp only [amT]; rfl) (by simp (disch:=(first | assumption | omega)) only [amL]; try rfl) (by simp only [amT,List.drop_zero]; exact Aat rfl)).trans ?_
            simp (disch:=(first | assumption | omega)) only [amL,sF,↓reduceIte]
          · unfold Ad4; rw [if_neg (by rw [Xo (k:=k) (by omega) (by first | exact .inl (by assumption) | exact .inr (by simpa using h))]; simp)])
       | (refine A6 (res:=.tup [avW (C3 vs).1,bl true,bl (C3 vs).2]) os ?_ (by first | ((repeat' first | exact Sub.refl _ | refine Sub.skip (by first | exact hfr0 _ | (simp (disch:=omega) only [Ac]; exact hfr0 _)) ?_ | refine Sub.both ?_); done) | fail) hcl (A9 _ (Tt _ _ _)) ⟨?_,rfl⟩
          · refine (Jo (n:=bd+2) (off:=0) (g:=true) (cs:=cW (C3 vs).1) (x:=avW (C3 vs).1) (by simp (disch:=(first | assumption | omega)) only [amL,sF,↓reduceIte]) (by simp only [amT]; rfl) (by simp (disch:=(first | assumption | omega)) only [amL]; try rfl) (by simp only [amT,List.drop_zero]; exact Aat hl4)).trans ?_
            simp (disch:=(first | assumption | omega)) only [amL,sF,↓reduceIte]
            try rfl
          · unfold Ad4; rw [if_pos (Ads hone)])
       | trace_state
  all_goals
   skip
   refine Ab fun K10 hK10=>?_
   refine Au ?_
   refine Ad fun K11 hK11=>?_
   simp (disch:=(first | assumption | omega)) only [hfr0,Ac,Bz,Dj,List.map_cons,List.map_nil,amL,amT,sA,sB,sF,↓reduceIte,reduceCtorEq]
   refine hK11 _ ?_
   refine Ab fun K12 hK12=>?_
   refine Ad fun K13 hK13=>?_
   have hb:=C9 (List.all_eq_true.1 hva _ (Du default (show k < vs.length by omega)))
   have hr1:=Da hb.1
   have hr2:=Da hb.2.1
   simp (disch:=(first | assumption | omega)) only [List.map_cons,List.map_nil,amL,amT,sA,sB,sE,sG,↓reduceIte,reduceCtorEq]
   repeat' first | (refine E3 (fun h=>?_) (fun h=>?_) <;> simp (disch:=(first | assumption | omega)) only [h,List.map_cons,List.map_nil,amL,amT,sA,sB,sE,sF,sG,↓reduceIte,reduceCtorEq]) | (refine Cz (fun h=>?_) (fun h=>?_) <;> simp (disch:=(first | assumption | omega)) only [h,ow,hfr0,Ac,Bz,Dj,Cb,A0,hv0t,Br,Hr,Nr,J9,hpg,Kw,Ew,Gh,List.map_cons,List.map_nil,Lx,amL,amT,sA,sB,sC,sD,sE,sF,sG,sH,sI,sJ,sK,sL,sM,sN,sO,↓reduceIte,reduceCtorEq]) | (refine Ax (by kernel_rfl) rfl (Ad9 (vs.getD k default).g (by omega) (by omega)) (by first | exact .inl rfl | exact .inr (.inl rfl)) ?_ ; simp (disch:=(first | assumption | omega)) only [amL,amT,sA,↓reduceIte]) | (refine Ax (by kernel_rfl) rfl (Ad9 (vs.getD k default).d (by omega) (by omega)) (by first | exact .inl rfl | exact .inr (.inl rfl)) ?_ ; simp (disch:=(first | assumption | omega)) only [amL,amT,sA,sF,↓reduceIte])
   all_goals
    skip
    refine hK13 _ ?_
    refine Al rfl (fun h=>MT.x ?_) (fun h=>ME.x ?_)
    all_goals
     first
     |refine MT.mk ?_
      first
      |exact Bool.noConfusion h
      |skip
       try simp only [nrm] at h
       refine Ad fun K14 hK14=>?_
       simp (disch:=(first | assumption | omega)) only [Ac,Cb,A0,hv0t,amL,amT,sA,sB,sC,sF,↓reduceIte,reduceCtorEq]
       refine hK14 _ ?_
       refine Aj ?_
       try simp (disch:=(first | assumption | omega)) only [amL]
       all_goals first
         | (refine A6 (res:=.tup [avW v0,bl false,bl false]) os ?_ (by first | ((repeat' first | exact Sub.refl _ | refine Sub.skip (by first | exact hfr0 _ | (simp (disch:=omega) only [Ac]; exact hfr0 _)) ?_ | refine Sub.both ?_); done) | fail) hcl (A9 _ (Tt _ _ _)) ⟨?_,rfl⟩
            · refine (Jo (n:=bd+2) (off:=0) (g:=true) (cs:=cW v0) (x:=avW v0) (by simp (disch:=(first | assumption | omega)) only [amL,sF,↓reduceIte,reduceCtorEq]) (by simp only [amT]; rfl) (by simp (disch:=(first | assumption | omega)) only [amL]; try rfl) (by simp only [amT,List.drop_zero]; exact Aat rfl)).trans ?_
              simp (disch:=(first | assumption | omega)) only [amL,sF,↓reduceIte]
            · unfold Ad4; rw [if_neg (by rw [Xo (k:=k) (by omega) (by first | exact .inl (by assumption) | exact .inr (by simpa using h))]; simp)])
         | (refine A6 (res:=.tup [avW (C3 vs).1,bl true,bl (C3 vs).2]) os ?_ (by first | ((repeat' first | exact Sub.refl _ | refine Sub.skip (by first | exact hfr0 _ | (simp (disch:=omega) only [Ac]; exact hfr0 _)) ?_ | refine Sub.both ?_); done) | fail) hcl (A9 _ (Tt _ _ _)) ⟨?_,rfl⟩
            · refine (Jo (n:=bd+2) (off:=0) (g:=true) (cs:=cW (C3 vs).1) (x:=avW (C3 vs).1) (by simp (disch:=(first | assumption | omega)) only [ow,hfr0,Ac,Bz,Dj,Cb,A0,hv0t,Br,Hr,Nr,J9,hpg,Kw,Ew,Gh,List.map_cons,List.map_nil,Lx,amL,amT,sA,sB,sC,sD,sE,sF,sG,sH,sI,sJ,sK,sL,sM,sN,sO,↓reduceIte,reduceCtorEq]) (by simp only [amT]; rfl) (by simp (disch:=(first | assumption | omega)) only [ow,hfr0,Ac,Bz,Dj,Cb,A0,hv0t,Br,Hr,Nr,J9,hpg,Kw,Ew,Gh,List.map_cons,List.map_nil,Lx,amL,amT,sA,sB,sC,sD,sE,sF,sG,sH,sI,sJ,sK,sL,sM,sN,sO,↓reduceIte,reduceCtorEq]; try rfl) (by simp only [amT,List.drop_zero]; exact Aat hl4)).trans ?_
              simp (disch:=(first | assumption | omega)) only [ow,hfr0,Ac,Bz,Dj,Cb,A0,hv0t,Br,Hr,Nr,J9,hpg,Kw,Ew,Gh,List.map_cons,List.map_nil,Lx,amL,amT,sA,sB,sC,sD,sE,sF,sG,sH,sI,sJ,sK,sL,sM,sN,sO,↓reduceIte,reduceCtorEq]
              try rfl
            · unfold Ad4; rw [if_pos (Ads hone)])
         | trace_state
     |refine ME.mk ?_
      first
      |exact Bool.noConfusion h
      |skip
       try simp only [nrm] at h
       refine Am ?_
       refine hK12 _ ?_
    all_goals
     skip
     refine Aix [] [31,32,33,34,37,38,39,40] (by kernel_rfl) (by kernel_rfl) (by kernel_rfl) ⟨(by simp (disch:=omega) only [Ac]; exact hfr0 _),(by simp (disch:=omega) only [Ac]; exact hfr0 _),(by simp (disch:=omega) only [Ac]; exact hfr0 _),(by simp (disch:=omega) only [Ac]; exact hfr0 _),(by simp (disch:=omega) only [Ac]; exact hfr0 _),(by simp (disch:=omega) only [Ac]; exact hfr0 _),(by simp (disch:=omega) only [Ac]; exact hfr0 _),(by simp (disch:=omega) only [Ac]; exact hfr0 _),trivial⟩ ?_
     simp (disch:=(first | assumption | omega)) only [hfr0,Ac,Hr,Nr,J9,hpg,Kw,Ew,Gh,List.map_cons,List.map_nil,Lx,amL,amT,sA,sE,sF,↓reduceIte,reduceCtorEq]
     refine hK10 _ ?_
     refine Ah ?_
     simp (disch:=(first | assumption | omega)) only [amL,amT,sA,sF,↓reduceIte,reduceCtorEq]
     refine hK5 (k+1) _ ?_ ?_ (G9 ?_ ?_ ?_ ?_)
     all_goals (try simp (disch:=(first | assumption | omega)) only [ow,Ac,amL,sF,↓reduceIte,reduceCtorEq])
     all_goals first | omega | exact Nt (Nt (Ee hcl)) | exact ⟨by omega,fun j hj=>by
       by_cases e:j=k
       · subst e; exact ⟨by assumption,by simpa using h⟩
       · exact hone j (by omega)⟩ | (rw [Abp default (show k < vs.length by omega),Abp default (show k < vs.length by omega)] ; exact (by first | ((repeat' first | exact Sub.refl _ | refine Sub.skip (by first | exact hfr0 _ | (simp (disch:=omega) only [Ac]; exact hfr0 _)) ?_ | refine Sub.both ?_); done) | fail)) | trace_state
structure Arq (vs:List Ves) (ss:List Stp) (g k:Int) (nB mB nw ng nk ns:Nat) (os:Nat→Option AO):Prop where
  w:os nw=some (.cells [.ptr nB 0])
  b:os nB=some (.cells [.p (slV vs),.p (slS ss),.mp mB])
  g:os ng=some (.cells [i64 g])
  k:os nk=some (.cells [i64 k])
  s:os ns=some (.cells [.fn (.func 83) [] [.ptr nw 0,.ptr ng 0,.ptr nk 0,.ptr ns 0]])
def SrR (o:Option (List Stp)) (os:Nat→Option AO) (res:AV) (os':Nat→Option AO):Prop:=(∃ x:AV,res=.tup [x,bl o.isSome]∧x.isP=true∧∀ q,o=some q→x=.p (slS q))∧os'=os
def oS (os:Nat→Option AO) (bd:Nat) (v:List Liq) (p:List Stp) (many:Int) (nB:Nat) (x f:AV):Nat→Option AO:=
  upd (upd (upd (upd (upd (upd (upd os (bd+7) (some (.cells (cW v)))) (bd+8) (some (.cells [.p (slS p)]))) (bd+9) (some (.cells [i64 many]))) (bd+10) (some (.cells [x]))) (bd+11) (some (.cells [f]))) (bd+54+2) (some (.cells [.ptr nB 0]))) (bd+54+3) (some (.cells (cW v)))
theorem Amx {os:Nat→Option AO} {bd:Nat} {v:List Liq} {p:List Stp} {many:Int} {nB q:Nat} {x f:AV} (h:q≠bd+7∧q≠bd+8∧q≠bd+9∧q≠bd+10∧q≠bd+11∧q≠bd+54+2∧q≠bd+54+3):oS os bd v p many nB x f q=os q:=by
  unfold oS; simp (disch:=omega) only [Ac]
theorem F9 {os:Nat→Option AO} {bd:Nat} {v:List Liq} {p:List Stp} {many:Int} {nB q:Nat} {x f:AV} (h:q < bd):oS os bd v p many nB x f q=os q:=Amx (by omega)
theorem Axy {os:Nat→Option AO} {bd:Nat} {v:List Liq} {p:List Stp} {many:Int} {nB:Nat} {x f:AV}:oS os bd v p many nB x f (bd+7)=some (.cells (cW v)):=by unfold oS; simp (disch:=omega) only [Ac,Bc]
theorem Awz {os:Nat→Option AO} {bd:Nat} {v:List Liq} {p:List Stp} {many:Int} {nB:Nat} {x f:AV}:oS os bd v p many nB x f (bd+8)=some (.cells [.p (slS p)]):=by unfold oS; simp (disch:=omega) only [Ac,Bc]
theorem Ayd {os:Nat→Option AO} {bd:Nat} {v:List Liq} {p:List Stp} {many:Int} {nB:Nat} {x f:AV}:oS os bd v p many nB x f (bd+9)=some (.cells [i64 many]):=by unfold oS; simp (disch:=omega) only [Ac,Bc]
theorem Kp {os:Nat→Option AO} {bd:Nat} {v:List Liq} {p:List Stp} {many:Int} {nB:Nat} {x f:AV}:oS os bd v p many nB x f (bd+10)=some (.cells [x]):=by unfold oS; simp (disch:=omega) only [Ac,Bc]
theorem Kg {os:Nat→Option AO} {bd:Nat} {v:List Liq} {p:List Stp} {many:Int} {nB:Nat} {x f:AV}:oS os bd v p many nB x f (bd+11)=some (.cells [f]):=by unfold oS; simp (disch:=omega) only [Ac,Bc]
theorem As8 {os:Nat→Option AO} {bd:Nat} {v:List Liq} {p:List Stp} {many:Int} {nB:Nat} {x f:AV}:oS os bd v p many nB x f (bd+54+2)=some (.cells [.ptr nB 0]):=by unfold oS; simp (disch:=omega) only [Ac,Bc]
theorem Ato {os:Nat→Option AO} {bd:Nat} {v:List Liq} {p:List Stp} {many:Int} {nB:Nat} {x f:AV}:oS os bd v p many nB x f (bd+54+3)=some (.cells (cW v)):=by unfold oS; simp (disch:=omega) only [Bc]
theorem Al9 {os:Nat→Option AO} {bd:Nat} {v:List Liq} {p:List Stp} {many:Int} {nB q:Nat} {x f x' f':AV} (h1:q≠bd+10) (h2:q≠bd+11):oS os bd v p many nB x f q=oS os bd v p many nB x' f' q:=by
  unfold oS upd
  split
  · rfl
  · split
    · rfl
    · rfl
theorem Agz {os:Nat→Option AO} {bd:Nat} {v:List Liq} {p:List Stp} {many:Int} {nB q:Nat} {x f x' f':AV}:(oS os bd v p many nB x f q).isSome=(oS os bd v p many nB x' f' q).isSome:=by
  by_cases h1:q=bd+10
  · subst h1; rw [Kp,Kp]; rfl
  · by_cases h2:q=bd+11
    · subst h2; rw [Kg,Kg]; rfl
    · rw [Al9 h1 h2]
theorem Ai9 {os:Nat→Option AO} {bd:Nat} {v:List Liq} {p:List Stp} {many:Int} {nB:Nat} {x f:AV} (hcl:(Hp os).closed) (hB:(os nB).isSome=true) (hb:nB < bd) (hx:x.isP=true) (hf:f.isP=true):(Hp (oS os bd v p many nB x f)).closed:=by
  refine Ee (Cs (F3 (F3 (F3 (F3 (Ee hcl) ?_) ?_) ?_) ?_) ?_)
  · intro y hy; simp only [List.mem_singleton] at hy; subst hy; rfl
  · intro y hy; simp only [List.mem_singleton] at hy; subst hy; rfl
  · intro y hy; simp only [List.mem_singleton] at hy; subst hy; exact hx
  · intro y hy; simp only [List.mem_singleton] at hy; subst hy; exact hf
  · rw [Dw]; simp (disch:=omega) only [Cq,Cm,C8,Ac,hB,and_self]
def Aa0:Option (List Stp)→AV
  | none=>C4
  | some q=>.p (slS q)
def Ph (vs:List Ves) (g k:Int) (m:Nat) (v:List Liq) (p:List Stp) (s:Option (List Stp)) (x:Stp):Option (List Stp) × Option Code:=match Co vs g k m (Gv v x x.g.lo).1 (p++[x]) with
  | some q=>(some q,some .ret)
  | none=>(s,none)
theorem Abi {vs:List Ves} {g k:Int} {m:Nat} {v:List Liq} {p:List Stp}:∀ (l:List Stp),(Gn (fun (s:Option (List Stp) × Option Code) x=>(Ph vs g k m v p s.1 x,(Ph vs g k m v p s.1 x).2.isNone)) (none,none) l).1=match l.findSome? fun x=>Co vs g k m (Gv v x x.g.lo).1 (p++[x]) with
    | some q=>(some q,some .ret)
    | none=>(none,none)
  | []=>rfl
  | x :: l=>by
    simp only [Gn,List.findSome?_cons]
    cases h:Co vs g k m (Gv v x x.g.lo).1 (p++[x]) with
    | none=>
      have e:Ph vs g k m v p none x=(none,none):=by unfold Ph; rw [h]
      rw [e]; simp only [Option.isNone_none,if_true]; exact Abi l
    | some q=>
      have e:Ph vs g k m v p none x=(some q,some .ret):=by unfold Ph; rw [h]
      rw [e]; simp
theorem H8 {P:Program} {s:St} {i j n m:Nat} {ty ty2:TypeId} {x y:AV} (h1:s.t i=.ptr n 0) (h2:(Aa P ty).agg=some false) (h3:s.o n=some (.cells [x])) (h4:s.t j=.ptr m 0) (h5:(Aa P ty2).agg=some false) (h6:s.o m=some (.cells [y])):(Cw P s [.cell i ty,.cell j ty2]).map Df=some (.tup [x,y]):=by
  simp only [Cw,F1,h1,h2,h3,h4,h5,h6,List.drop_zero,Ai,List.head?_cons]; rfl
theorem Ams (p:List Stp):((p.map Pz).all fun c=>decide (c.length=5))=true:=by
  rw [List.all_eq_true]; intro c hc; obtain ⟨z,-,rfl⟩:=List.mem_map.1 hc; rfl
theorem Aft (p:List Stp):((p.map Pz).all fun e=>e.all PV.isVal)=true:=by
  rw [List.all_eq_true]; intro c hc; obtain ⟨z,-,rfl⟩:=List.mem_map.1 hc; rfl
theorem Ap8 {n:Nat} {es:List (List PV)} {x:AV} (h:x.isP=true):x.frz n es=x:=frz_id _ (Nw h n)
theorem Aqj (v:List Liq):(avW v).isP=true:=(Je _).2 fun _ _ hx=>P2 hx
theorem Aor {n:Nat} {v:List Liq}:AV.clean.cleanL n (cW v)=true:=(Be n _).2 fun _ _ hx=>Nw (P2 hx) n
theorem Ayg {bd:Nat} {fv a c:AV} {p:List Stp} {x:Stp} {os:Nat→Option AO} {R:AV→(Nat→Option AO)→Prop} (h:Bh Tryz.prog bd fv [a,.p (slS (p++[x])),c] os R):Bh Tryz.prog bd fv [a,.p (.sl (p.map Pz++[Pz x])),c] os R:=by
  rw [show slS (p++[x])=PV.sl (p.map Pz++[Pz x]) from by simp [List.map_append]] at h; exact h
theorem Apa {n nw ng nk ns:Nat} {es:List (List PV)} (h1:nw≠n) (h2:ng≠n) (h3:nk≠n) (h4:ns≠n):(AV.fn (.func 83) [] [.ptr nw 0,.ptr ng 0,.ptr nk 0,.ptr ns 0]).frz n es=.fn (.func 83) [] [.ptr nw 0,.ptr ng 0,.ptr nk 0,.ptr ns 0]:=by
  simp only [AV.frz,AV.frz.frzL,h1,h2,h3,h4,if_false]
theorem Apc {n len:Nat} {es:List (List PV)} {w:List Liq} {m:Int} (h:len=es.length):[avW w,.own n len,i64 m].map (AV.frz n es)=[avW w,.p (.sl es),i64 m]:=by
  subst h
  show [(avW w).frz n es,(AV.own n es.length).frz n es,i64 m]=_
  rw [Ap8 (Aqj w)]
  simp only [AV.frz,if_true,Nat.le_refl,List.take_length]
theorem Bc1 {v:List Liq} {s:Stp} {n:Int} {nv:Nat} {os:Nat→Option AO} {bd:Nat} (hk:0≤s.kind∧s.kind≤2) (hw:G1 v) (hs:0≤s.frm∧s.frm.toNat < v.length∧s.frm < 4) (ht:0≤s.to∧s.to.toNat < v.length∧s.to < 4) (hn:0≤n∧n≤1000000) (ov:os nv=some (.cells (cW v))) :
    Bh Tryz.prog bd (Ah9 s.kind) [.ptr nv 0,avS s,i64 n] os fun res os'=>res=bl (Gv v s n).2∧os'=upd os nv (some (.cells (cW (Gv v s n).1))):=by
  have h:=Bci (tl:=[]) (bd:=bd) hk hw hs ht hn (by rw [List.append_nil]; exact ov)
  simpa only [List.append_nil] using h
abbrev tmS (bd nw ng nk ns:Nat):List (Nat × AV):=[(3,.ptr nw 0),(4,.ptr ng 0),(5,.ptr nk 0),(6,.ptr ns 0),(7,.ptr (bd+7) 0),(8,.ptr (bd+8) 0),(9,.ptr (bd+9) 0),(10,.ptr (bd+10) 0),(11,.ptr (bd+11) 0)]
theorem Adh {bd nw ng nk ns m:Nat} {k:F0} (h:(AO.loop k (tmS bd nw ng nk ns)).clean m=false):m=nw∨m=ng∨m=nk∨m=ns∨m=bd+7∨m=bd+8∨m=bd+9∨m=bd+10∨m=bd+11:=by
  simp [AO.clean,AV.clean,AV.clean.cleanL] at h
  omega
theorem An6 {vs:List Ves} {ss:List Stp} {g k:Int} {nB mB nw ng nk ns m:Nat} {v:List Liq} {p:List Stp} {os:Nat→Option AO} {bd bdL:Nat} (hvs:vs.length≤4) (hva:vs.all Er=true) (hv:OkV v) (hp:p.length≤1000) (hso:Arq vs ss g k nB mB nw ng nk ns os) (hcl:(Hp os).closed) (hfree:∀ n,bd≤n→os n=none) (hbL:bdL=bd+60)
    (hih:∀ (v':List Liq) (p':List Stp) (os':Nat→Option AO) (bd':Nat),OkV v'→p'.length≤p.length+1→Arq vs ss g k nB mB nw ng nk ns os'→Bh Tryz.prog bd' (.fn (.func 83) [] [.ptr nw 0,.ptr ng 0,.ptr nk 0,.ptr ns 0]) [avW v',.p (slS p'),i64 (m:Int)] os' (SrR (Co vs g k m v' p') os'))
    (hm:m≤10) {A B:Code} (hcode:(Tryz.f83.body.bind Na)=some (A,B)) :
    Zt Tryz.prog bdL ⟨54,[27],A,B,.ready,none⟩ (tmS bd nw ng nk ns) [] [] (fun n=>(oS os bd v p ((m:Int)+1) nB C4 (bl false) n).isSome=true) avS (Gi vs v) (fun s os'=>∀ n,(oS os bd v p ((m:Int)+1) nB C4 (bl false) n).isSome=true→os' n=oS os bd v p ((m:Int)+1) nB (Aa0 s) (bl s.isSome) n) (Ph vs g k m v p) where
  ready:=rfl
  lenp:=rfl
  psn q hq:=by
    simp only [List.mem_cons,List.not_mem_nil,or_false] at hq
    subst hq; exact (by decide:27 < 54)
  notF h:=by
    rw [Amx (by omega),hfree _ (by omega)] at h; cases h
  tmF q hq:=by
    have b1:=Ap hfree hso.w
    have b2:=Ap hfree hso.g
    have b3:=Ap hfree hso.k
    have b4:=Ap hfree hso.s
    rcases Adh hq with rfl | rfl | rfl | rfl | rfl | rfl | rfl | rfl | rfl
    · rw [F9 b1,hso.w]; rfl
    · rw [F9 b2,hso.g]; rfl
    · rw [F9 b3,hso.k]; rfl
    · rw [F9 b4,hso.s]; rfl
    · rw [Axy]; rfl
    · rw [Awz]; rfl
    · rw [Ayd]; rfl
    · rw [Kp]; rfl
    · rw [Kg]; rfl
  stable s o1 o2 hI he n hn:=(he n hn).trans (hI n hn)
  foot s o1 n hI hn:=by
    have hn2:(oS os bd v p ((m:Int)+1) nB (Aa0 s) (bl s.isSome) n).isSome=true:=by rw [Agz (x':=C4) (f':=bl false)]; exact hn
    obtain ⟨o,ho⟩:=Option.isSome_iff_exists.1 hn2
    refine ⟨o,(hI n hn).trans ho,fun q hq=>?_⟩
    have hc:=Ai9 (v:=v) (p:=p) (many:=(m:Int)+1) hcl (by rw [hso.b]; rfl) (Ap hfree hso.b) (x:=Aa0 s) (f:=bl s.isSome) (by cases s <;> rfl) rfl
    have:(oS os bd v p ((m:Int)+1) nB (Aa0 s) (bl s.isSome) q).isSome=true:=hc.2 n o ho q hq
    rwa [Agz (x':=C4) (f':=bl false)] at this
  body s x o1 bd1 hx hI hl hcl1 hfree1 hb1 rl:=by
    have b1:=Ap hfree hso.w
    have b2:=Ap hfree hso.g
    have b3:=Ap hfree hso.k
    have b4:=Ap hfree hso.s
    have b5:=Ap hfree hso.b
    have a1:o1 nw=_:=(hI nw (by rw [F9 b1,hso.w]; rfl)).trans ((F9 b1).trans hso.w)
    have a2:o1 ng=_:=(hI ng (by rw [F9 b2,hso.g]; rfl)).trans ((F9 b2).trans hso.g)
    have a3:o1 nk=_:=(hI nk (by rw [F9 b3,hso.k]; rfl)).trans ((F9 b3).trans hso.k)
    have a4:o1 ns=_:=(hI ns (by rw [F9 b4,hso.s]; rfl)).trans ((F9 b4).trans hso.s)
    have a5:o1 nB=_:=(hI nB (by rw [F9 b5,hso.b]; rfl)).trans ((F9 b5).trans hso.b)
    have a7:o1 (bd+7)=_:=(hI (bd+7) (by rw [Axy]; rfl)).trans Axy
    have a8:o1 (bd+8)=_:=(hI (bd+8) (by rw [Awz]; rfl)).trans Awz
    have a9:o1 (bd+9)=_:=(hI (bd+9) (by rw [Ayd]; rfl)).trans Ayd
    have a10:o1 (bd+10)=_:=(hI (bd+10) (by rw [Kp]; rfl)).trans Kp
    have a11:o1 (bd+11)=_:=(hI (bd+11) (by rw [Kg]; rfl)).trans Kg
    have hfr0:∀ k,o1 (bd1+k)=none:=fun k=>hfree1 _ (by omega)
    have hpg:∀ k,pgO (bd1+k) o1=o1:=fun k=>Adf hcl1 (hfr0 k)
    obtain ⟨x1,x2,x3,x4,x5,x6⟩:=Anc hv hvs hva hx
    obtain ⟨y1,y2,y3,y4,y5⟩:=Fp x1
    have hsm:=hv.small
    have hl4:=hv.len
    have hix:Afv (fun e=>(Aa Tryz.prog e).sz) (fun e=>(Aa Tryz.prog e).agg) (.agg Ahp) (.arr 3 157) (i64 x.kind)=some (.pure (.agg [Ah9 x.kind])):=Zg (by simp only [amT]) (by simp only [amT]; rfl) y1.1 y1.2
    have la4:(Gv v x x.g.lo).1.length=4:=by rw [Z1,hl4]
    have hv0t:(cW v0).take 8=cW v0:=rfl
    have hm1:IntKind.i64.wrap ((m:Int)+1 - 1)=m:=by rw [Fc (by omega) (by omega)]; omega
    have hpf:∀ j,AV.purge (bd1+j) (.fn (.func 83) [] [.ptr nw 0,.ptr ng 0,.ptr nk 0,.ptr ns 0])=.fn (.func 83) [] [.ptr nw 0,.ptr ng 0,.ptr nk 0,.ptr ns 0]:=fun j=>by
      unfold AV.purge
      refine if_pos ?_
      simp [AV.clean,AV.clean.cleanL]; omega
    have hpl:∀ j (kk:F0),AO.purge (bd1+j) (.loop kk (tmS bd nw ng nk ns))=.loop kk (tmS bd nw ng nk ns):=fun j kk=>by
      show AO.loop kk (List.map _ _)=_
      congr 1
      simp (disch:=omega) only [tmS,List.map_cons,List.map_nil,Y4,if_neg]
    have hlq:∀ {q:Nat} {kk:F0},(AO.loop kk (tmS bd nw ng nk ns)).clean q=false→(o1 q).isSome=true∧q < bd1∧q≠bdL:=fun {q kk} hq=>by
      rcases Adh hq with e | e | e | e | e | e | e | e | e <;> (refine ⟨?_,by omega,by omega⟩ ; rw [e] ; first | (rw [a1]; rfl) | (rw [a2]; rfl) | (rw [a3]; rfl) | (rw [a4]; rfl) | (rw [a7]; rfl) | (rw [a8]; rfl) | (rw [a9]; rfl) | (rw [a10]; rfl) | (rw [a11]; rfl))
    have hclB:∀ {os:Nat→Option AO} {n k:Nat} {es:List (List PV)},(Hp os).closed→(Hp (upd os n (some (.arr k es)))).closed:=fun h=>Nt h
    have hsoB:∀ {os:Nat→Option AO},(∀ q,q < bd→os q=o1 q)→Arq vs ss g k nB mB nw ng nk ns os:=fun h=>⟨(h _ b1).trans a1,(h _ b5).trans a5,(h _ b2).trans a2,(h _ b3).trans a3,(h _ b4).trans a4⟩
    cases (show some (_,_)=some (A,B) from hcode)
    show AWP _ _ 54 _ ⟨T [(27,avS x),(3,.ptr nw 0),(4,.ptr ng 0),(5,.ptr nk 0),(6,.ptr ns 0),(7,.ptr (bd+7) 0),(8,.ptr (bd+8) 0),(9,.ptr (bd+9) 0),(10,.ptr (bd+10) 0),(11,.ptr (bd+11) 0)],o1⟩ _
    refine Ah ?_
    simp (disch:=omega) only [hl,hfr0,Ac,Bz,amL,amT,sA,sB,sF,↓reduceIte]
    try simp (disch:=omega) only [hl,hfr0,Ac,Bz,amL,amT,sA,sB,sC,sD,sE,sF,sG,sH,sI,sJ,sK,sL,sM,sN,sO,↓reduceIte,reduceCtorEq]
    skip
    refine Au ?_
    refine Ad fun K1 hK1=>?_
    simp (disch:=(first | assumption | omega)) only [a7,hfr0,Ac,Bz,Br,A0,Aio,amL,amT,sA,sB,sF,↓reduceIte]
    refine hK1 _ ?_
    refine Ab fun K2 hK2=>?_
    refine Cj (by kernel_rfl) (by kernel_rfl) ?_
    simp (disch:=(first | assumption | omega)) only [List.map_nil,amL]
    repeat' first | (refine Ax (by kernel_rfl) rfl (Ak6) (by first | exact .inl rfl | exact .inr (.inl rfl)) ?_ ; simp (disch:=(first | assumption | omega)) only [Ac,We,hix,List.map_cons,List.map_nil,amL,amT,sA,sB,sF,↓reduceIte,reduceCtorEq]) | (refine A2 [(12,.ptr (bd1+12) 0),(13,.ptr (bd1+13) 0),(3,.ptr nw 0),(4,.ptr ng 0),(5,.ptr nk 0),(6,.ptr ns 0),(7,.ptr (bd+7) 0),(8,.ptr (bd+8) 0),(9,.ptr (bd+9) 0),(10,.ptr (bd+10) 0),(11,.ptr (bd+11) 0)] (by decide) (Bc1 (v:=v) (s:=x) (n:=x.g.lo) (nv:=bd1+13) (bd:=bd1+54) y1 hsm ⟨by omega,by omega,by omega⟩ ⟨by omega,by omega,by omega⟩ ⟨by omega,by omega⟩ (by first | (simp (disch:=(first | assumption | omega)) only [amL]; done) | fail)) (fun q hq=>by simp (disch:=omega) only [Ac]; exact hfree1 q (by omega)) (Nat.le_add_right _ _) (fun res os2 hR hcl2 hlv2=>?_) ; obtain ⟨rfl,rfl⟩:=hR ; simp (disch:=(first | assumption | omega)) only [a1,a2,a3,a4,a7,a8,a9,a10,a11,Ac,Bz,amL,sF,↓reduceIte])
    refine hK2 _ ?_
    refine Ab fun K3 hK3=>?_
    refine Ug 9 [.app [6],.app [13,41]] (by kernel_rfl) (by kernel_rfl) ?_
    simp only [List.take_succ_cons,List.take_zero,List.drop_succ_cons,List.drop_zero]
    simp (disch:=(first | assumption | omega)) only [a4,a8,Ac,Br,A0,List.map_cons,List.map_nil,amL,amT,sA,sF,↓reduceIte]
    refine Ux (by kernel_rfl) (by decide) (Acp (p.map Pz) (Ams p) (Aft p) (by rw [List.length_map]; omega)) (by simp (disch:=(first | assumption | omega)) only [hfr0,Ac]) ?_
    simp (disch:=(first | assumption | omega)) only [a9,hm1,hfr0,Ac,hpf,hpl,Aor,Hr,Nr,J9,hpg,Kw,Ew,Gh,List.map_cons,List.map_nil,Lx,amL,amT,sA,sB,sC,sE,sF,↓reduceIte,reduceCtorEq]
    refine ⟨rfl,?_⟩
    refine Aej (bd:=bd1+54) (bd1+46) Bc _ [(3,.ptr nw 0),(4,.ptr ng 0),(5,.ptr nk 0),(6,.ptr ns 0),(7,.ptr (bd+7) 0),(8,.ptr (bd+8) 0),(9,.ptr (bd+9) 0),(10,.ptr (bd+10) 0),(11,.ptr (bd+11) 0)] ((Acd (hclB (Ee (Cs (F3 hcl1 (by simp [AV.isP])) (fun q hq=>?_)))) (by simp (disch:=omega) only [Ac]; exact hfr0 _)).trans rfl) (by decide) (by
      rw [Apa (by omega) (by omega) (by omega) (by omega),Apc (by simp)]
      exact Ayg (hih (Gv v x x.g.lo).1 (p++[x]) _ (bd1+54) x5 (by simp) (hsoB fun q hq=>by simp (disch:=omega) only [Ac]))) (fun q hq=>by simp (disch:=omega) only [Ac]; exact hfree1 q (by omega)) (Nat.le_add_right _ _) (fun res os2 hR hcl2 hlv2=>?_)
    · obtain ⟨hq1,hq2,hq3⟩:=hlq hq
      simp (disch:=omega) only [Ac]; exact hq1
    obtain ⟨⟨y,rfl,hyp,hyq⟩,rfl⟩:=hR
    simp (disch:=omega) only [Wr,AV.frz,if_neg]
    simp (disch:=(first | assumption | omega)) only [a1,a2,a3,a4,a7,a8,a9,a10,a11,Ac,amL,sA,sF,↓reduceIte]
    trace_state
    refine hK3 _ ?_
    refine Ad fun K4 hK4=>?_
    simp (disch:=(first | assumption | omega)) only [amL,sA,↓reduceIte]
    refine hK4 _ ?_
    refine Al rfl (fun h=>?_) (fun h=>?_)
    ·first
     | exact Bool.noConfusion h
     |skip
      try simp only [nrm] at h
      refine Ad fun K5 hK5=>?_
      obtain ⟨q,hq⟩:=Option.isSome_iff_exists.1 h
      have hy:=hyq q hq
      subst hy
      simp (disch:=(first | assumption | omega)) only [a10,a11,Ac,amL,amT,sF,↓reduceIte]
      refine hK5 _ ?_
      refine Aj ?_
      try simp (disch:=(first | assumption | omega)) only [Ae8,amL]
      first
        | (have hb:Ph vs g k m v p s x=(some q,some .ret):=by unfold Ph; rw [hq]
           refine Qj (upd (upd (upd o1 (bd+10) (some (.cells [.p (slS q)]))) (bd+11) (some (.cells [bl true]))) bdL (some (.loop (Apv _ (some .ret)) (tmS bd nw ng nk ns)))) (by simp (disch:=omega) only [Ac,Bc]) (fun z=>?_) ?_ ⟨by rw [hb] ; first | done | rfl,⟨fun n hn=>?_,by rw [Bc,hb]⟩,fun n hn=>?_⟩
           · by_cases e1:z=bdL
             · subst e1; right; rw [Bc,Bc] ; first | done | rfl
             · by_cases e2:z=bd+11
               · subst e2; right; simp (disch:=omega) only [Ac,Bc]
               · by_cases e3:z=bd+10
                 · subst e3; right; simp (disch:=omega) only [Ac,Bc]
                 · by_cases e4:bd1≤z
                   · left; simp (disch:=omega) only [Ac]; exact hfree1 z e4
                   · right; simp (disch:=omega) only [Ac]
           · refine Cs (F3 (F3 hcl1 (by simp [AV.isP])) (by simp [AV.isP])) (fun z hz=>?_)
             obtain ⟨z1,z2,z3⟩:=hlq hz
             by_cases e2:z=bd+11
             · subst e2; simp (disch:=omega) only [Ac,Bc,Option.isSome_some]
             · by_cases e3:z=bd+10
               · subst e3; simp (disch:=omega) only [Ac,Bc,Option.isSome_some]
               · simp (disch:=omega) only [Ac]; exact z1
           · rw [hb]
             have hnL:n≠bdL:=fun e=>by subst e; rw [Amx (by omega),hfree _ (by omega)] at hn; cases hn
             by_cases e2:n=bd+11
             · subst e2; rw [Kg]; simp (disch:=omega) only [Ac,Bc,Option.isSome_some]
             · by_cases e3:n=bd+10
               · subst e3; rw [Kp]; simp (disch:=omega) only [Ac,Bc,Aa0]
               · simp (disch:=omega) only [Ac]
                 exact (hI n hn).trans (Al9 e3 e2)
           · have h1:n≠bdL:=fun e=>hn (.inr e)
             have h2:n≠bd+11:=fun e=>hn (.inl (by rw [e,Kg]; rfl))
             have h3:n≠bd+10:=fun e=>hn (.inl (by rw [e,Kp]; rfl))
             simp (disch:=omega) only [Ac])
        | (have hb:Ph vs g k m v p s x=(s,none):=by
             unfold Ph; cases hr:Co vs g k m (Gv v x x.g.lo).1 (p++[x]) with
             | none=>rfl
             | some q=>rw [hr] at h; cases h
           refine Qj o1 (by simp (disch:=omega) only [Ac,Bc]) (fun z=>?_) hcl1 ⟨by rw [hb] ; first | done | rfl,⟨fun n hn=>by rw [hb]; exact hI n hn,by rw [hb]; exact hl⟩,fun _ _=>rfl⟩
           by_cases e1:z=bdL
           · subst e1; right; rw [Bc]; exact hl
           · by_cases e4:bd1≤z
             · left; exact hfree1 z e4
             · right; simp (disch:=omega) only [Ac])
        | trace_state
    ·first
     | exact Bool.noConfusion h
     |skip
      try simp only [nrm] at h
      refine Am ?_
      try simp (disch:=(first | assumption | omega)) only [W3,amL]
      first
        | (have hb:Ph vs g k m v p s x=(some q,some .ret):=by unfold Ph; rw [hq]
           refine Qj (upd (upd (upd o1 (bd+10) (some (.cells [.p (slS q)]))) (bd+11) (some (.cells [bl true]))) bdL (some (.loop (Apv _ (some .ret)) (tmS bd nw ng nk ns)))) (by simp (disch:=omega) only [Ac,Bc]) (fun z=>?_) ?_ ⟨by rw [hb] ; first | done | rfl,⟨fun n hn=>?_,by rw [Bc,hb]⟩,fun n hn=>?_⟩
           · by_cases e1:z=bdL
             · subst e1; right; rw [Bc,Bc] ; first | done | rfl
             · by_cases e2:z=bd+11
               · subst e2; right; simp (disch:=omega) only [Ac,Bc]
               · by_cases e3:z=bd+10
                 · subst e3; right; simp (disch:=omega) only [Ac,Bc]
                 · by_cases e4:bd1≤z
                   · left; simp (disch:=omega) only [Ac]; exact hfree1 z e4
                   · right; simp (disch:=omega) only [Ac]
           · refine Cs (F3 (F3 hcl1 (by simp [AV.isP])) (by simp [AV.isP])) (fun z hz=>?_)
             obtain ⟨z1,z2,z3⟩:=hlq hz
             by_cases e2:z=bd+11
             · subst e2; simp (disch:=omega) only [Ac,Bc,Option.isSome_some]
             · by_cases e3:z=bd+10
               · subst e3; simp (disch:=omega) only [Ac,Bc,Option.isSome_some]
               · simp (disch:=omega) only [Ac]; exact z1
           · rw [hb]
             have hnL:n≠bdL:=fun e=>by subst e; rw [Amx (by omega),hfree _ (by omega)] at hn; cases hn
             by_cases e2:n=bd+11
             · subst e2; rw [Kg]; simp (disch:=omega) only [Ac,Bc,Option.isSome_some]
             · by_cases e3:n=bd+10
               · subst e3; rw [Kp]; simp (disch:=omega) only [Ac,Bc,Aa0]
               · simp (disch:=omega) only [Ac]
                 exact (hI n hn).trans (Al9 e3 e2)
           · have h1:n≠bdL:=fun e=>hn (.inr e)
             have h2:n≠bd+11:=fun e=>hn (.inl (by rw [e,Kg]; rfl))
             have h3:n≠bd+10:=fun e=>hn (.inl (by rw [e,Kp]; rfl))
             simp (disch:=omega) only [Ac])
        | (have hb:Ph vs g k m v p s x=(s,none):=by
             unfold Ph; cases hr:Co vs g k m (Gv v x x.g.lo).1 (p++[x]) with
             | none=>rfl
             | some q=>rw [hr] at h; cases h
           refine Qj o1 (by simp (disch:=omega) only [Ac,Bc]) (fun z=>?_) hcl1 ⟨by rw [hb] ; first | done | rfl,⟨fun n hn=>by rw [hb]; exact hI n hn,by rw [hb]; exact hl⟩,fun _ _=>rfl⟩
           by_cases e1:z=bdL
           · subst e1; right; rw [Bc]; exact hl
           · by_cases e4:bd1≤z
             · left; exact hfree1 z e4
             · right; simp (disch:=omega) only [Ac])
        | trace_state
theorem Abc {vs:List Ves} {g k:Int} {v:List Liq} {p:List Stp}:(Co vs g k 0 v p).isSome=Wi vs.length v g k∧∀ q,Co vs g k 0 v p=some q→q=p:=by
  unfold Co
  cases h:Wi vs.length v g k with
  | true=>exact ⟨rfl,fun q hq=>by cases hq; rfl⟩
  | false=>exact ⟨rfl,fun q hq=>by cases hq⟩
theorem Axa {t:Nat→AV} {tm:List (Nat × AV)} (h:leT t tm):∀ (j:Nat) (p:Nat × AV),tm[j]?=some p→p.2=.undef∨p.2=t p.1:=by
  induction tm with
  | nil=>intro j p hp; simp at hp
  | cons x r ih=>
    obtain ⟨i,v⟩:=x
    rw [Aw] at h
    intro j p hp
    cases j with
    | zero=>simp at hp; subst hp; exact .inr h.1.symm
    | succ j=>exact ih h.2 j p (by simpa using hp)
theorem Ao8 {vs:List Ves} {ss:List Stp} {g k:Int} {nB mB nw ng nk ns:Nat} (hvs:vs.length≤4) (hva:vs.all Er=true) (m:Nat):m≤10→∀ (v:List Liq) (p:List Stp) (os:Nat→Option AO) (bd:Nat),OkV v→p.length+m≤900→Arq vs ss g k nB mB nw ng nk ns os →
    Bh Tryz.prog bd (.fn (.func 83) [] [.ptr nw 0,.ptr ng 0,.ptr nk 0,.ptr ns 0]) [avW v,.p (slS p),i64 (m:Int)] os (SrR (Co vs g k m v p) os):=by
  induction m using Nat.strongRecOn with
  | ind m ih=>
  intro hm v p os bd hv hp hso
  refine Xs (v:=[84,85]) (q:=[84]) (N:=54) (rs:=[.cell 10 36,.cell 11 4]) Tryz.func83 rfl (by kernel_rfl) rfl rfl (fun hcl hfree=>?_)
  have hfr0:∀ k,os (bd+k)=none:=fun k=>hfree _ (by omega)
  have hw:=hso.w
  have hg:=hso.g
  have hk:=hso.k
  have hB:=hso.b
  have hS:=hso.s
  have b1:=Ap hfree hso.w
  have b2:=Ap hfree hso.g
  have b3:=Ap hfree hso.k
  have b4:=Ap hfree hso.s
  have b5:=Ap hfree hso.b
  have hl4:=hv.len
  have hsB:(os nB).isSome=true:=by rw [hB]; rfl
  obtain ⟨A,B,hcode⟩:∃ A B,(Tryz.f83.body.bind Na)=some (A,B):=⟨_,_,rfl⟩
  refine Ls fun K1 hK1=>?_
  refine Ah ?_
  simp (disch:=(first | assumption | omega)) only [hfr0,Ac,amL,amT,sA,sB,sF,↓reduceIte,reduceCtorEq]
  refine hK1 _ ?_
  refine Ls fun K2 hK2=>?_
  refine Ad fun K3 hK3=>?_
  simp (disch:=(first | assumption | omega)) only [Ac,amL,amT,sA,sF,↓reduceIte]
  refine hK3 _ ?_
  refine Al rfl (fun h=>MT.x ?_) (fun h=>ME.x ?_)
  all_goals
   first
   |refine MT.mk ?_
    first
    |exact Bool.noConfusion h
    |skip
     try simp only [nrm] at h
     refine Ab fun K4 hK4=>?_
     obtain rfl:m=0:=by omega
     refine Ug 8 [] (by kernel_rfl) (by kernel_rfl) ?_
     simp only [List.take_succ_cons,List.take_zero,List.drop_succ_cons,List.drop_zero]
     simp (disch:=(first | assumption | omega)) only [hw,hg,hk,Ac,Br,A0,amL,amT,sA,sF,sG,↓reduceIte,reduceCtorEq]
     refine Amh (bd:=bd+54) (by decide) (Aqx (ss:=ss) (m:=mB) (by simp (disch:=omega) only [Ac]; exact hB) hvs hv.small hl4) (fun q hq=>by simp (disch:=omega) only [Ac]; exact hfree q (by omega)) (Nat.le_add_right _ _) rfl ?_
     simp (disch:=(first | assumption | omega)) only [Ac,amL,amT,sF,↓reduceIte]
     refine hK4 _ ?_
     refine Aj ?_
     try simp (disch:=(first | assumption | omega)) only [amL]
     first
       | (obtain ⟨s1,s2⟩:=Abc (vs:=vs) (g:=g) (k:=k) (v:=v) (p:=p)
          refine A6 (res:=.tup [.p (slS p),bl (Wi vs.length v g k)]) os (H8 (n:=bd+10) (m:=bd+11) (by simp (disch:=(first | assumption | omega)) only [amL,sF,↓reduceIte]) (by simp only [amT]; rfl) (by simp (disch:=(first | assumption | omega)) only [Ac,amL]) (by simp (disch:=(first | assumption | omega)) only [amL,sF,↓reduceIte]) (by simp only [amT]; rfl) (by simp (disch:=(first | assumption | omega)) only [amL])) (by first | ((repeat' first | exact Sub.refl _ | refine Sub.skip (by first | exact hfr0 _ | (simp (disch:=omega) only [Ac]; exact hfr0 _)) ?_ | refine Sub.both ?_); done) | fail) hcl (A9 _ rfl) ⟨⟨_,by rw [s1],rfl,fun q hq=>by rw [s2 q hq]⟩,rfl⟩)
       | (refine A6 (res:=.tup [C4,bl false]) os (H8 (n:=bd+10) (m:=bd+11) (by simp (disch:=(first | assumption | omega)) only [hw,hg,hk,hB,hS,hfr0,Ac,Bz,Br,A0,amL,amT,sA,sB,sC,sD,sE,sF,sG,sH,sI,sJ,sK,sL,sM,sN,sO,↓reduceIte,reduceCtorEq]) (by simp only [amT]; rfl) (by simp (disch:=(first | assumption | omega)) only [hw,hg,hk,hB,hS,hfr0,Ac,Bz,Br,A0,amL,amT,sA,sB,sC,sD,sE,sF,sG,sH,sI,sJ,sK,sL,sM,sN,sO,↓reduceIte,reduceCtorEq]) (by simp (disch:=(first | assumption | omega)) only [hw,hg,hk,hB,hS,hfr0,Ac,Bz,Br,A0,amL,amT,sA,sB,sC,sD,sE,sF,sG,sH,sI,sJ,sK,sL,sM,sN,sO,↓reduceIte,reduceCtorEq]) (by simp only [amT]; rfl) (by simp (disch:=(first | assumption | omega)) only [hw,hg,hk,hB,hS,hfr0,Ac,Bz,Br,A0,amL,amT,sA,sB,sC,sD,sE,sF,sG,sH,sI,sJ,sK,sL,sM,sN,sO,↓reduceIte,reduceCtorEq])) (fun z=>?_) hcl (A9 _ rfl) ⟨⟨_,by rw [hr]; rfl,rfl,fun q hq=>by rw [hr] at hq; cases hq⟩,rfl⟩
          cases hz:os z with
          | none=>exact .inl rfl
          | some o=>
            have hz1:=Ap hfree hz
            obtain ⟨g1,g2⟩:=hlt z hz1 (by rw [hz]; rfl) (Aa0 none) (bl false)
            right; simp (disch:=omega) only [Ac]; rw [hI3 z g1]; exact (g2.trans hz).symm)
       | trace_state
   |refine ME.mk ?_
    first
    |exact Bool.noConfusion h
    |skip
     try simp only [nrm] at h
     refine Am ?_
     refine hK2 _ ?_
  all_goals
   skip
   refine Ad8 fun K5 hK5=>?_
   refine Ls fun K6 hK6=>?_
   refine Ah ?_
   obtain ⟨m,rfl⟩:∃ j,m=j+1:=⟨m - 1,by omega⟩
   simp (disch:=(first | assumption | omega)) only [hw,Ac,Br,A0,amL,amT,sA,sF,sG,↓reduceIte,reduceCtorEq]
   refine A2 [(3,.ptr nw 0),(4,.ptr ng 0),(5,.ptr nk 0),(6,.ptr ns 0),(7,.ptr (bd+7) 0),(8,.ptr (bd+8) 0),(9,.ptr (bd+9) 0),(10,.ptr (bd+10) 0),(11,.ptr (bd+11) 0)] (by decide) (Aqr (v:=v) (nw:=nB) (bd:=bd+54) (by simp (disch:=omega) only [Ac]; exact hsB)) (fun q hq=>by simp (disch:=omega) only [Ac]; exact hfree q (by omega)) (Nat.le_add_right _ _) (fun res os2 hR hcl2 hlv2=>?_)
   obtain ⟨rfl,rfl⟩:=hR
   simp (disch:=(first | assumption | omega)) only [hw,hg,hk,hS,Ac,amL,sF,↓reduceIte,reduceCtorEq]
   refine hK6 _ ?_
   refine Vm ?_
   have hRd:=An6 (v:=v) (p:=p) (bdL:=bd+60) (m:=m) hvs hva hv (by omega) hso hcl hfree rfl (fun v' p' os' bd' h1 h2 h3=>ih m (by omega) (by omega) v' p' os' bd' h1 (by omega) h3) (by omega) hcode
   have hc:=Aog (n1:=bd+54+2) (n2:=bd+54+3) (nw:=nB) (ss:=ss) (m:=mB) hRd.yields (fun s os' hI=>⟨(hI.1 _ (by rw [As8]; rfl)).trans As8,(hI.1 _ (by rw [Ato]; rfl)).trans Ato,(hI.1 nB (by rw [F9 b5,hso.b]; rfl)).trans ((F9 b5).trans hso.b)⟩) hv hvs hva (s:=(none,none)) (os:=upd (oS os bd v p ((m:Int)+1) nB C4 (bl false)) (bd+60) (some (.loop ⟨54,[27],A,B,.ready,none⟩ (tmS bd nw ng nk ns)))) (bd:=bd+61) rfl ⟨fun n hn=>(Ac (fun e=>by subst e; rw [Amx (by omega),hfree _ (by omega)] at hn; cases hn)),Bc⟩
   cases (show some (_,_)=some (A,B) from hcode)
   refine My (bd:=bd+60) (tm:=tmS bd nw ng nk ns) rfl (fun q hq=>by simp (disch:=omega) only [Ac]; exact hfree q (by omega)) (by simp only []; omega) rfl (by kernel_rfl) (fun i=>Aal (by simp (disch:=(first | assumption | omega)) only [amL,sF,↓reduceIte]) i) (Axa (by simp (disch:=(first | assumption | omega)) only [amL,sF,↓reduceIte])) hc (fun res os2 hR hcl2=>?_)
   obtain ⟨rfl,hI2,hfr2⟩:=hR
   have hI2:=hI2
   rw [Abi] at hI2
   have hlt:∀ q,q < bd→(os q).isSome=true→∀ x f,(oS os bd v p ((m:Int)+1) nB C4 (bl false) q).isSome=true∧oS os bd v p ((m:Int)+1) nB x f q=os q:=fun q h1 h2 x f=>⟨by rw [F9 h1]; exact h2,F9 h1⟩
   cases hr:Co vs g k (m+1) v p with
   | some q=>
     rw [show ((Gi vs v).findSome? fun x=>Co vs g k m (Gv v x x.g.lo).1 (p++[x]))=some q from hr] at hI2
     obtain ⟨hI3,hI4⟩:=hI2
     dsimp only at hI3 hI4
     have p10:os2 (bd+10)=_:=(hI3 (bd+10) (by rw [Kp]; rfl)).trans Kp
     have p11:os2 (bd+11)=_:=(hI3 (bd+11) (by rw [Kg]; rfl)).trans Kg
     refine ⟨_,hI4,by simp [],?_⟩
     show Lm 0 _ .ret _
     simp (disch:=omega) only [V5,Ys,Adt]
     refine A6 (res:=.tup [.p (slS q),bl true]) os (H8 (n:=bd+10) (m:=bd+11) (by simp (disch:=(first | assumption | omega)) only [amL,sF,↓reduceIte]) (by simp only [amT]; rfl) ((Ac (by omega)).trans p10) (by simp (disch:=(first | assumption | omega)) only [amL,sF,↓reduceIte]) (by simp only [amT]; rfl) ((Ac (by omega)).trans p11)) (fun z=>?_) hcl (A9 _ rfl) ⟨⟨_,rfl,rfl,fun q' hq'=>by cases hq'; rfl⟩,rfl⟩
     cases hz:os z with
     | none=>exact .inl rfl
     | some o=>
       have hz1:=Ap hfree hz
       obtain ⟨g1,g2⟩:=hlt z hz1 (by rw [hz]; rfl) (Aa0 (some q)) (bl true)
       right; exact ((Ac (by omega)).trans ((hI3 z g1).trans (g2.trans hz))).symm
   | none=>
   rw [show ((Gi vs v).findSome? fun x=>Co vs g k m (Gv v x x.g.lo).1 (p++[x]))=none from hr] at hI2
   obtain ⟨hI3,hI4⟩:=hI2
   dsimp only at hI3 hI4
   have p10:os2 (bd+10)=_:=(hI3 (bd+10) (by rw [Kp]; rfl)).trans Kp
   have p11:os2 (bd+11)=_:=(hI3 (bd+11) (by rw [Kg]; rfl)).trans Kg
   refine ⟨_,hI4,by simp [],?_⟩
   show Lm 0 _ .normal _
   simp only [N2,Qr]
   refine hK5 _ ?_
   refine Ls fun K7 hK7=>?_
   refine Ah ?_
   simp (disch:=(first | assumption | omega)) only [p10,p11,Ac,amL,amT,sF,↓reduceIte]
   refine hK7 _ ?_
   refine D0 ?_
   refine Aj ?_
   try simp (disch:=(first | assumption | omega)) only [amL]
   first
     | (obtain ⟨s1,s2⟩:=Abc (vs:=vs) (g:=g) (k:=k) (v:=v) (p:=p)
        refine A6 (res:=.tup [.p (slS p),bl (Wi vs.length v g k)]) os (H8 (n:=bd+10) (m:=bd+11) (by simp (disch:=(first | assumption | omega)) only [amL,sF,↓reduceIte]) (by simp only [amT]; rfl) (by simp (disch:=(first | assumption | omega)) only [Ac,amL]) (by simp (disch:=(first | assumption | omega)) only [amL,sF,↓reduceIte]) (by simp only [amT]; rfl) (by simp (disch:=(first | assumption | omega)) only [amL])) (by first | ((repeat' first | exact Sub.refl _ | refine Sub.skip (by first | exact hfr0 _ | (simp (disch:=omega) only [Ac]; exact hfr0 _)) ?_ | refine Sub.both ?_); done) | fail) hcl (A9 _ rfl) ⟨⟨_,by rw [s1],rfl,fun q hq=>by rw [s2 q hq]⟩,rfl⟩)
     | (refine A6 (res:=.tup [C4,bl false]) os (H8 (n:=bd+10) (m:=bd+11) (by simp (disch:=(first | assumption | omega)) only [amL,sF,↓reduceIte]) (by simp only [amT]; rfl) (by simp (disch:=(first | assumption | omega)) only [Ac,amL]) (by simp (disch:=(first | assumption | omega)) only [amL,sF,↓reduceIte]) (by simp only [amT]; rfl) (by simp (disch:=(first | assumption | omega)) only [amL])) (fun z=>?_) hcl (A9 _ rfl) ⟨⟨_,by rw [hr]; rfl,rfl,fun q hq=>by rw [hr] at hq; cases hq⟩,rfl⟩
        cases hz:os z with
        | none=>exact .inl rfl
        | some o=>
          have hz1:=Ap hfree hz
          obtain ⟨g1,g2⟩:=hlt z hz1 (by rw [hz]; rfl) (Aa0 none) (bl false)
          right; simp (disch:=omega) only [Ac]; rw [hI3 z g1]; exact (g2.trans hz).symm)
     | trace_state
theorem Bh.of_nil1 {P:Program} {bd:Nat} {fv a c:AV} {os:Nat→Option AO} {R:AV→(Nat→Option AO)→Prop} (h:Bh P bd fv [a,.p (.sl []),c] os R):Bh P bd fv [a,C4,c] os R:=by
  intro hfree S θ M w vf vs h1 h2 h3 h4 h5 h6
  refine h hfree S θ M w vf vs h1 h2 h3 (fun i x hx=>?_) h5 (fun i x hx=>?_)
  · match i,hx with
    | 0,hx=>exact h4 0 x hx
    | 1,hx=>
      cases hx
      have:=Re (h4 1 C4 rfl)
      rw [this]; exact .p _ _ .nil
    | 2,hx=>exact h4 2 x hx
  · match i,hx with
    | 0,hx=>exact h6 0 x hx
    | 1,hx=>cases hx; exact AV.lives_p _ _
    | 2,hx=>exact h6 2 x hx
def J0 (vs:List Ves):List Liq:=if Kk vs=true then (C3 vs).1 else v0
theorem Aw7 (vs:List Ves):Ad4 vs=.tup [avW (J0 vs),bl (Kk vs),bl (Kk vs&&(C3 vs).2)]:=by
  unfold Ad4 J0
  cases Kk vs with
  | true=>simp
  | false=>simp
theorem Mi {vs:List Ves} {g k:Int} {v:List Liq} {j:Nat} {q:List Stp} (h:∀ i,i < j→Co vs g k i v []=none) (hj:j < 3) (hq:Co vs g k j v []=some q):Ak9 vs g k v=some q:=by
  unfold Ak9
  match j,hj with
  | 0,_=>rw [hq]; rfl
  | 1,_=>rw [h 0 (by omega),hq]; rfl
  | 2,_=>rw [h 0 (by omega),h 1 (by omega),hq]; rfl
theorem M6 {vs:List Ves} {g k:Int} {v:List Liq} {j:Nat} (h:∀ i,i < j→Co vs g k i v []=none) (hj:3≤j):Ak9 vs g k v=none:=by
  unfold Ak9; rw [h 0 (by omega),h 1 (by omega),h 2 (by omega)]; rfl
theorem Anu (b:Eg) (g k:Int):(Hh b g k).isP=true:=by
  unfold Hh
  split
  · rfl
  · split
    · rfl
    · split
      · rfl
      · split <;> rfl
theorem Aoh {vs:List Ves} (hvs:vs.length≤4) (hva:vs.all Er=true):OkV (C3 vs).1:=by
  have hb:∀ k,(0≤(vs.map (·.g.lo)).getD k 0∧(vs.map (·.g.lo)).getD k 0≤60)∧(0≤(vs.map (·.d.lo)).getD k 0∧(vs.map (·.d.lo)).getD k 0≤120):=fun k=>by
    by_cases hk:k < vs.length
    · have hb:=C9 (List.all_eq_true.1 hva _ (Du default hk))
      have h1:=Da hb.1
      have h2:=Da hb.2.1
      rw [Cp (·.g.lo) 0 default hk,Cp (·.d.lo) 0 default hk]
      constructor <;> constructor <;> first | exact h1.1 | exact h2.1 | (show _≤_; omega)
    · have e1:(vs.map (·.g.lo)).getD k 0=0:=by simp [List.getD,List.getElem?_eq_none (show vs.length≤k by omega)]
      have e2:(vs.map (·.d.lo)).getD k 0=0:=by simp [List.getD,List.getElem?_eq_none (show vs.length≤k by omega)]
      rw [e1,e2]; omega
  refine Wb (by omega) (fun k=>(hb k).1) (fun k=>(hb k).2) Ale (by decide) fun k _=>?_
  match k with
  | 0=>rfl
  | 1=>rfl
  | 2=>rfl
  | 3=>rfl
  | k+4=>rfl
theorem Apn {ks:List Nat} (v:List Liq):nmL ks (cW v)=true:=by
  unfold cW
  generalize wI v=l
  induction l with
  | nil=>rfl
  | cons x l ih=>simp only [List.map_cons,nmL,nm,ih,Bool.and_self]
theorem Aq7 {vs:List Ves} (hvs:vs.length≤4) (hva:vs.all Er=true):OkV (J0 vs):=by
  unfold J0; split
  · exact Aoh hvs hva
  · exact Ale
theorem Amz (b:Eg) (g k:Int) (hl:b.vs.length < 1000000) (hl2:b.ss.length < 1000000):Bu Tryz.prog 34 [avB b,i64 g,i64 k] (Hh b g k):=by
  refine Bo (v:=[60,81]) (q:=[]) (N:=54) (rs:=[.tmp 6,.tmp 7]) Tryz.func34 rfl rfl rfl rfl (Anu b g k) ?_
  have hfx:=Aw7 b.vs
  have hw4:(J0 b.vs).length=4:=by unfold J0; split; exact Rv; rfl
  refine Ad fun K1 hK1=>?_
  simp (disch:=(first | assumption | omega)) only [amL,sA,sB,sF,↓reduceIte,reduceCtorEq]
  refine hK1 _ ?_
  refine Ab fun K2 hK2=>?_
  refine Ad fun K3 hK3=>?_
  simp (disch:=(first | assumption | omega)) only [amL,amT,sA,sB,sF,sG,↓reduceIte]
  repeat' first | (refine Ax (by kernel_rfl) rfl (Ahm b hl hl2) (by first | exact .inl rfl | exact .inr (.inl rfl)) ?_ ; simp (disch:=(first | assumption | omega)) only [amL,sA,↓reduceIte])
  refine hK3 _ ?_
  refine Ad fun K4 hK4=>?_
  simp (disch:=(first | assumption | omega)) only [amL,amT,sA,↓reduceIte]
  refine hK4 _ ?_
  refine Al rfl (fun h=>MT.x ?_) (fun h=>ME.x ?_)
  all_goals
   first
   |refine MT.mk ?_
    first
    |exact Bool.noConfusion h
    |skip
     try simp only [nrm] at h
     refine Ad fun K5 hK5=>?_
     simp (disch:=(first | assumption | omega)) only [amL,sA,sF,↓reduceIte]
     refine hK5 _ ?_
     refine Aj ?_
     try simp (disch:=(first | assumption | omega)) only [amL,sF,↓reduceIte]
     all_goals first
       | (unfold Hh; rw [if_pos (by assumption)]; done)
       | (unfold Hh; rw [if_neg (by omega),if_pos (by first | (simp_all; done) | fail)]; done)
       | (unfold Hh; rw [if_neg (by omega),if_neg (by first | (simp_all; done) | fail),if_pos (by first | (simp_all; done) | fail)]; done)
       | (have h1:(Kk b.vs&&M3 g k)=true:=by first | (simp_all; done) | fail
          have h2:(C3 b.vs).2=true:=by first | (simp_all; done) | fail
          have h3:Kk b.vs=true:=by first | (simp_all; done) | fail
          have h4:J0 b.vs=(C3 b.vs).1:=by unfold J0; rw [if_pos h3]
          unfold Hh; rw [if_neg (by omega),if_neg (by rw [h1]; decide),if_neg (by rw [h2]; decide),← h4]
          first | (rw [Mi hno (by omega) hq]; done) | (rw [M6 hno (by omega)]; done))
       | trace_state
   |refine ME.mk ?_
    first
    |exact Bool.noConfusion h
    |skip
     try simp only [nrm] at h
     refine Am ?_
     refine hK2 _ ?_
  all_goals
   skip
   refine Ad fun K6 hK6=>?_
   have hf0:B5 b=0:=by omega
   have hval:=Adn hf0
   simp (disch:=(first | assumption | omega)) only [amL,amT,sA,sB,sF,sG,↓reduceIte]
   refine A2 [(3,.ptr 3 0),(4,.ptr 4 0),(5,.ptr 5 0),(6,C4),(7,i64 0)] (by decide) (Dp (b:=b) (bd:=54)) (Lg rfl) (by decide) (fun res os2 hR hcl2 hlv2=>?_)
   obtain ⟨rfl,rfl⟩:=hR
   simp (disch:=(first | assumption | omega)) only [amL,amT,sA,sB,sF,↓reduceIte]
   refine hK6 _ ?_
   refine Ad fun K7 hK7=>?_
   simp (disch:=(first | assumption | omega)) only [amL,amT,sA,sG,↓reduceIte]
   refine Cc (bd:=100) (by decide) (Aqa (ss:=b.ss) (m:=58) ⟨by simp (disch:=(first | assumption | omega)) only [amL,sF,↓reduceIte],by simp (disch:=(first | assumption | omega)) only [amL,sF,↓reduceIte]⟩ hval.nv hval.v) (fun q hq=>by first | exact Lg rfl q (by omega) | (simp (disch:=omega) only [Ac]; exact Lg rfl q (by omega))) (by decide) (by rw [hfx]; exact Tt _ _ _) ?_
   simp (disch:=(first | assumption | omega)) only [hfx,Aio,A0,amL,amT,sA,sB,sF,↓reduceIte]
   refine hK7 _ ?_
   refine Ab fun K8 hK8=>?_
   refine Ad fun K9 hK9=>?_
   simp (disch:=(first | assumption | omega)) only [amL,sA,sF,↓reduceIte]
   repeat' first | (refine E3 (fun h=>?_) (fun h=>?_) <;> simp (disch:=(first | assumption | omega)) only [h,hfx,Aio,Br,A0,amL,amT,sA,sB,sC,sD,sE,sF,sG,sH,sI,sJ,sK,sL,sM,sN,sO,↓reduceIte,reduceCtorEq]) | (refine Cz (fun h=>?_) (fun h=>?_) <;> simp (disch:=(first | assumption | omega)) only [h,amL,amT,sA,sF,sG,↓reduceIte]) | (refine Ax (by kernel_rfl) rfl (c_wort g k) (by first | exact .inl rfl | exact .inr (.inl rfl)) ?_ ; simp (disch:=(first | assumption | omega)) only [amL,sA,sF,↓reduceIte])
   all_goals
    skip
    refine hK9 _ ?_
    refine Al rfl (fun h=>MT.x ?_) (fun h=>ME.x ?_)
    all_goals
     first
     |refine MT.mk ?_
      first
      |exact Bool.noConfusion h
      |skip
       try simp only [nrm] at h
       refine Ad fun K10 hK10=>?_
       simp (disch:=(first | assumption | omega)) only [amL,sA]
       refine hK10 _ ?_
       refine Aj ?_
       try simp (disch:=(first | assumption | omega)) only [amL,sF,↓reduceIte]
       all_goals first
         | (unfold Hh; rw [if_pos (by assumption)]; done)
         | (unfold Hh; rw [if_neg (by omega),if_pos (by first | (simp_all; done) | fail)]; done)
         | (unfold Hh; rw [if_neg (by omega),if_neg (by first | (simp_all; done) | fail),if_pos (by first | (simp_all; done) | fail)]; done)
         | (have h1:(Kk b.vs&&M3 g k)=true:=by first | (simp_all; done) | fail
            have h2:(C3 b.vs).2=true:=by first | (simp_all; done) | fail
            have h3:Kk b.vs=true:=by first | (simp_all; done) | fail
            have h4:J0 b.vs=(C3 b.vs).1:=by unfold J0; rw [if_pos h3]
            unfold Hh; rw [if_neg (by omega),if_neg (by rw [h1]; decide),if_neg (by rw [h2]; decide),← h4]
            first | (rw [Mi hno (by omega) hq]; done) | (rw [M6 hno (by omega)]; done))
         | trace_state
     |refine ME.mk ?_
      first
      |exact Bool.noConfusion h
      |skip
       try simp only [nrm] at h
       refine Am ?_
       refine hK8 _ ?_
    all_goals
     skip
     refine Ab fun K11 hK11=>?_
     refine Ad fun K12 hK12=>?_
     simp (disch:=(first | assumption | omega)) only [amL,sA,sF,↓reduceIte]
     refine hK12 _ ?_
     refine Al rfl (fun h=>MT.x ?_) (fun h=>ME.x ?_)
     all_goals
      first
      |refine MT.mk ?_
       first
       |exact Bool.noConfusion h
       |skip
        try simp only [nrm] at h
        refine Ad fun K13 hK13=>?_
        simp (disch:=(first | assumption | omega)) only [amL,sA]
        refine hK13 _ ?_
        refine Aj ?_
        try simp (disch:=(first | assumption | omega)) only [amL,sF,↓reduceIte]
        all_goals first
          | (unfold Hh; rw [if_pos (by assumption)]; done)
          | (unfold Hh; rw [if_neg (by omega),if_pos (by first | (simp_all; done) | fail)]; done)
          | (unfold Hh; rw [if_neg (by omega),if_neg (by first | (simp_all; done) | fail),if_pos (by first | (simp_all; done) | fail)]; done)
          | (have h1:(Kk b.vs&&M3 g k)=true:=by first | (simp_all; done) | fail
             have h2:(C3 b.vs).2=true:=by first | (simp_all; done) | fail
             have h3:Kk b.vs=true:=by first | (simp_all; done) | fail
             have h4:J0 b.vs=(C3 b.vs).1:=by unfold J0; rw [if_pos h3]
             unfold Hh; rw [if_neg (by omega),if_neg (by rw [h1]; decide),if_neg (by rw [h2]; decide),← h4]
             first | (rw [Mi hno (by omega) hq]; done) | (rw [M6 hno (by omega)]; done))
          | trace_state
      |refine ME.mk ?_
       first
       |exact Bool.noConfusion h
       |skip
        try simp only [nrm] at h
        refine Am ?_
        refine hK11 _ ?_
     all_goals
      skip
      refine Ad fun K14 hK14=>?_
      simp (disch:=(first | assumption | omega)) only [amL,amT,sA,sF,↓reduceIte]
      refine hK14 _ ?_
      refine Ad fun K15 hK15=>?_
      simp (disch:=(first | assumption | omega)) only [amL,amT,sA,sF,↓reduceIte]
      refine hK15 _ ?_
      refine Ab fun K16 hK16=>?_
      refine Ad fun K17 hK17=>?_
      simp (disch:=(first | assumption | omega)) only [amL,sA]
      refine hK17 _ ?_
      refine Au ?_
      skip
      refine Bg (α:=Nat) (fun j=>⟨T [(4,.ptr 4 0),(5,.ptr 5 0),(9,.ptr 9 0),(10,.ptr 10 0),(13,.ptr 13 0),(41,i64 (j:Int))],O [(4,.cells [i64 g]),(5,.cells [i64 k]),(9,.cells [.ptr 60 0]),(10,.cells (cW (J0 b.vs))),(13,.cells [.fn (.func 83) [] [.ptr 9 0,.ptr 4 0,.ptr 5 0,.ptr 13 0]]),(58,.obj (F8 14 (Si b.vs))),(60,.cells [.p (slV b.vs),.p (slS b.ss),.mp 58])]⟩) (fun j=>3 - j) (fun j=>j≤3∧∀ i,i < j→Co b.vs g k i (J0 b.vs) []=none) 0 ?_ ?_ (fun j hx18 K18 hK18=>?_)
      · exact ⟨by omega,fun i hi=>absurd hi (Nat.not_lt_zero _)⟩
      · refine Dg ?_ ?_ ?_ ?_ <;> (try simp (disch:=(first | assumption | omega)) only [amL,sF,sG,↓reduceIte]); all_goals first | exact Apn _ | trace_state
      obtain ⟨hj,hno⟩:=hx18
      refine Ad fun K19 hK19=>?_
      simp (disch:=(first | assumption | omega)) only [amL,amT,sA,sF,↓reduceIte]
      refine hK19 _ ?_
      refine Ab fun K20 hK20=>?_
      refine Al rfl (fun h=>MT.x ?_) (fun h=>ME.x ?_)
      all_goals
       first
       |refine MT.mk ?_
        first
        |exact Bool.noConfusion h
        |skip
         try simp only [nrm] at h
         refine Am ?_
         refine hK20 _ ?_
       |refine ME.mk ?_
        first
        |exact Bool.noConfusion h
        |skip
         try simp only [nrm] at h
         refine Bq ?_
         refine hK16 _ ?_
         refine Ad fun K21 hK21=>?_
         simp (disch:=(first | assumption | omega)) only [amL,sA]
         refine hK21 _ ?_
         refine Aj ?_
         try simp (disch:=(first | assumption | omega)) only [amL,sF,↓reduceIte]
         all_goals first
           | (unfold Hh; rw [if_pos (by assumption)]; done)
           | (unfold Hh; rw [if_neg (by omega),if_pos (by first | (simp_all; done) | fail)]; done)
           | (unfold Hh; rw [if_neg (by omega),if_neg (by first | (simp_all; done) | fail),if_pos (by first | (simp_all; done) | fail)]; done)
           | (have h1:(Kk b.vs&&M3 g k)=true:=by first | (simp_all; done) | fail
              have h2:(C3 b.vs).2=true:=by first | (simp_all; done) | fail
              have h3:Kk b.vs=true:=by first | (simp_all; done) | fail
              have h4:J0 b.vs=(C3 b.vs).1:=by unfold J0; rw [if_pos h3]
              unfold Hh; rw [if_neg (by omega),if_neg (by rw [h1]; decide),if_neg (by rw [h2]; decide),← h4]
              first | (rw [Mi hno (by omega) hq]; done) | (rw [M6 hno (by omega)]; done))
           | trace_state
      all_goals
       skip
       refine Ab fun K22 hK22=>?_
       refine Au ?_
       refine Ad fun K23 hK23=>?_
       simp (disch:=(first | assumption | omega)) only [amL,sA,sF,↓reduceIte]
       refine hK23 _ ?_
       refine Ad fun K24 hK24=>?_
       simp (disch:=(first | assumption | omega)) only [Br,A0,amL,amT,sA,sF,↓reduceIte]
       have hcs:=Bh.of_nil1 (Ao8 (nB:=60) (mB:=58) (ss:=b.ss) (g:=g) (k:=k) (nw:=9) (ng:=4) (nk:=5) (ns:=13) hval.nv hval.v j (by omega) (J0 b.vs) [] (O [(4,.cells [i64 g]),(5,.cells [i64 k]),(9,.cells [.ptr 60 0]),(10,.cells (cW (J0 b.vs))),(13,.cells [.fn (.func 83) [] [.ptr 9 0,.ptr 4 0,.ptr 5 0,.ptr 13 0]]),(58,.obj (F8 14 (Si b.vs))),(60,.cells [.p (slV b.vs),.p (slS b.ss),.mp 58])]) 100 (Aq7 hval.nv hval.v) (by rw [List.length_nil]; omega) ⟨rfl,rfl,rfl,rfl,rfl⟩)
       refine A2 [(4,.ptr 4 0),(5,.ptr 5 0),(9,.ptr 9 0),(10,.ptr 10 0),(13,.ptr 13 0),(41,i64 (j:Int))] (by decide) hcs (Lg rfl) (by decide) (fun res os2 hR hcl2 hlv2=>?_)
       obtain ⟨⟨y,rfl,hyp,hyq⟩,rfl⟩:=hR
       simp (disch:=(first | assumption | omega)) only [amL,sA,sF,↓reduceIte]
       refine hK24 _ ?_
       refine Ad fun K25 hK25=>?_
       simp (disch:=(first | assumption | omega)) only [amL,sA,↓reduceIte]
       refine hK25 _ ?_
       refine Al rfl (fun h=>MT.x ?_) (fun h=>ME.x ?_)
       all_goals
        first
        |refine MT.mk ?_
         first
         |exact Bool.noConfusion h
         |skip
          try simp only [nrm] at h
          refine Ad fun K26 hK26=>?_
          obtain ⟨q,hq⟩:=Option.isSome_iff_exists.1 h
          have hy:=hyq q hq
          subst hy
          simp (disch:=(first | assumption | omega)) only [amL,sA,sF,↓reduceIte]
          refine hK26 _ ?_
          refine Aj ?_
          try simp (disch:=(first | assumption | omega)) only [amL,sF,↓reduceIte]
          all_goals first
            | (unfold Hh; rw [if_pos (by assumption)]; done)
            | (unfold Hh; rw [if_neg (by omega),if_pos (by first | (simp_all; done) | fail)]; done)
            | (unfold Hh; rw [if_neg (by omega),if_neg (by first | (simp_all; done) | fail),if_pos (by first | (simp_all; done) | fail)]; done)
            | (have h1:(Kk b.vs&&M3 g k)=true:=by first | (simp_all; done) | fail
               have h2:(C3 b.vs).2=true:=by first | (simp_all; done) | fail
               have h3:Kk b.vs=true:=by first | (simp_all; done) | fail
               have h4:J0 b.vs=(C3 b.vs).1:=by unfold J0; rw [if_pos h3]
               unfold Hh; rw [if_neg (by omega),if_neg (by rw [h1]; decide),if_neg (by rw [h2]; decide),← h4]
               first | (rw [Mi hno (by omega) hq]; done) | (rw [M6 hno (by omega)]; done))
            | trace_state
        |refine ME.mk ?_
         first
         |exact Bool.noConfusion h
         |skip
          try simp only [nrm] at h
          refine Am ?_
          refine hK22 _ ?_
       all_goals
        skip
        refine Ah ?_
        simp (disch:=(first | assumption | omega)) only [amL,amT,sA,sF,↓reduceIte]
        refine hK18 (j+1) _ ?_ ?_ (Dg ?_ ?_ ?_ ?_)
        all_goals (try simp (disch:=(first | assumption | omega)) only [amL,sE,sF,sG,↓reduceIte])
        all_goals first | omega | exact Apn _ | exact ⟨by omega,fun i hi=>by
          by_cases e:i=j
          · subst e
            cases hr:Co b.vs g k i (J0 b.vs) [] with
            | none=>rfl
            | some q=>rw [hr] at h; cases h
          · exact hno i (by omega)⟩ | trace_state
theorem Ayk:Bu Tryz.prog 15 [avB (two 11),avT ⟨[10,5],[60,30],[4,1,2]⟩] (.tup [.p (.sl [[iv 8,iv 360,iv 45],[iv 8,iv 390,iv 49]]),i64 0]):=by
 have h:=Arv (two 11) ⟨[10,5],[60,30],[4,1,2]⟩ (by decide) (by decide) (by decide)
 have e:Dl (two 11) ⟨[10,5],[60,30],[4,1,2]⟩=.tup [.p (.sl [[iv 8,iv 360,iv 45],[iv 8,iv 390,iv 49]]),i64 0]:=by kernel_rfl
 rw [e] at h; exact h
theorem Ay4:Bu Tryz.prog 56 [.p (.sl [[iv 0],[iv 4],[iv 9],[iv 14]]),avR ⟨10,11⟩,avR ⟨15,16⟩,.p (.sl [[iv 10,iv 16],[iv 18,iv 20]])] (.tup [.p (.sl [[iv 1]]),i64 0]):=by
 have h:=Aya [0,4,9,14] ⟨10,11⟩ ⟨15,16⟩ [⟨10,16⟩,⟨18,20⟩] (by decide) (by decide)
 have e:Ks [0,4,9,14] ⟨10,11⟩ ⟨15,16⟩ [⟨10,16⟩,⟨18,20⟩]=.tup [.p (.sl [[iv 1]]),i64 0]:=by kernel_rfl
 rw [e] at h; exact h
theorem An4:Bu Tryz.prog 34 [avB (two 10),i64 8,i64 45] (.tup [.p (.sl [[iv 0,iv 0,iv 1,iv 4,iv 4],[iv 1,iv 0,iv 0,iv 2,iv 2]]),i64 0]):=by
 have h:=Amz (two 10) 8 45 (by decide) (by decide)
 have e:Hh (two 10) 8 45=.tup [.p (.sl [[iv 0,iv 0,iv 1,iv 4,iv 4],[iv 1,iv 0,iv 0,iv 2,iv 2]]),i64 0]:=by kernel_rfl
 rw [e] at h; exact h
theorem Nd (a b:Int):Bu Tryz.prog 48 [i64 a,i64 b] (avR ⟨a,b⟩):=by
 refine Bo (v:=[]) (q:=[]) (N:=8) (rs:=[.cell 4 58]) Tryz.func48 rfl rfl rfl rfl rfl ?_
 refine Ad fun K1 hK1=>?_
 simp (disch:=omega) only [amL,amT,sA,sB,↓reduceIte]
 refine hK1 _ ?_
 refine Ad fun K2 hK2=>?_
 simp (disch:=omega) only [amL,amT,sA,sB,sE,sF,↓reduceIte,reduceCtorEq]
 refine hK2 _ ?_
 refine Aj ?_
 try simp (disch:=omega) only [amL,amT,sB,sF,↓reduceIte]
 all_goals rfl
theorem Ac8 (n:Int):Bu Tryz.prog 54 [i64 n] (avB (two n)):=by
 refine Bo (v:=[]) (q:=[]) (N:=19) (rs:=[.cell 2 38]) Tryz.func54 rfl rfl rfl rfl rfl ?_
 refine Ad fun K1 hK1=>?_
 simp (disch:=omega) only [amL,amT,sA,sB,↓reduceIte]
 refine hK1 _ ?_
 refine Ab fun K2 hK2=>?_
 refine Mm 7 ?_
 simp (disch:=omega) only [Pa,Ly,amL,sA,↓reduceIte,reduceCtorEq]
 repeat' first | (refine Ax (by kernel_rfl) rfl (Nd _ _) (by first | exact .inl rfl | exact .inr (.inl rfl)) ?_ ; simp (disch:=omega) only [Su,Pa,Ly,H6,Fh,amL,amT,sA,sB,sC,sE,sF,↓reduceIte,reduceCtorEq])
 refine hK2 _ ?_
 refine Aj ?_
 try simp (disch:=omega) only [amL,amT,sB,sF,↓reduceIte]
 all_goals rfl
theorem Asd:Bu Tryz.prog 31 [.p (.sl [[iv 0]]),.p (.sl [[iv 0]])] (bl true):=Hu Ry 10000 (by kernel_rfl)
theorem Ap7:Bu Tryz.prog 31 [.p (.sl [[iv 1]]),.p (.sl [[iv 1]])] (bl true):=Hu Ry 10000 (by kernel_rfl)
theorem Ayy:Ml Tryz.prog 90 3:=Rn (by kernel_rfl)
theorem Aw6:Ml Tryz.prog 60 6:=Rn (by kernel_rfl)
theorem eqA (a b c:Int) (h:([a,b,c]:List Int).all inR=true):G0 Tryz.prog .eql 90 (some [a,b,c]) (some [a,b,c])=some (.pure (bl true)):=by
  rw [Nk (a:=[a,b,c]) (b:=[a,b,c]) Ayy rfl h h,decide_eq_true rfl]
theorem eqB (a b c d e f:Int) (h:([a,b,c,d,e,f]:List Int).all inR=true):G0 Tryz.prog .eql 60 (some [a,b,c,d,e,f]) (some [a,b,c,d,e,f])=some (.pure (bl true)):=by
  rw [Nk (a:=[a,b,c,d,e,f]) (b:=[a,b,c,d,e,f]) Aw6 rfl h h,decide_eq_true rfl]
theorem e1:G0 Tryz.prog .eql 90 (some [8,360,45]) (some [8,360,45])=some (.pure (bl true)):=eqA 8 360 45 (by decide)
theorem e2:G0 Tryz.prog .eql 90 (some [8,390,49]) (some [8,390,49])=some (.pure (bl true)):=eqA 8 390 49 (by decide)
theorem e3:G0 Tryz.prog .eql 60 (some [8,9,360,420,45,47]) (some [8,9,360,420,45,47])=some (.pure (bl true)):=eqB 8 9 360 420 45 47 (by decide)
theorem e4:G0 Tryz.prog .eql 60 (some [7,8,390,390,49,56]) (some [7,8,390,390,49,56])=some (.pure (bl true)):=eqB 7 8 390 390 49 56 (by decide)
theorem Bdq:Bu Tryz.prog 14 [] (bl true):=by
  refine Bo (v:=[]) (q:=[]) (N:=149) (rs:=[.tmp 0]) Tryz.func14 rfl rfl rfl rfl rfl ?_
  refine Ad fun K1 hK1=>?_
  simp (disch:=omega) only [amL,sA]
  refine hK1 _ ?_
  refine Ab fun K2 hK2=>?_
  refine Xx [false,true,true,true] ?_
  simp (disch:=omega) only [Aa8,amL]
  repeat' first | (refine Ax (by kernel_rfl) rfl (Ac8 _) (by first | exact .inl rfl | exact .inr (.inl rfl)) ?_ ; simp (disch:=omega) only [Age,Ad2,Ud,H6,Fh,amL,amT,sA,sB,sE,sF,↓reduceIte,reduceCtorEq]) | (refine Ax (by kernel_rfl) rfl (Ayk) (by first | exact .inl rfl | exact .inr (.inl rfl)) ?_ ; simp (disch:=omega) only [amL,sA,sF,↓reduceIte])
  refine hK2 _ ?_
  refine Ad fun K3 hK3=>?_
  simp (disch:=omega) only [amL]
  repeat' first | (refine Ax (by kernel_rfl) rfl (Ac8 _) (by first | exact .inl rfl | exact .inr (.inl rfl)) ?_ ; simp (disch:=omega) only [amL,↓reduceIte]) | (refine Ax (by kernel_rfl) rfl (Apf) (by first | exact .inl rfl | exact .inr (.inl rfl)) ?_ ; simp (disch:=omega) only [amL,sA,sF,↓reduceIte])
  refine hK3 _ ?_
  refine Ab fun K4 hK4=>?_
  refine Mm 7 ?_
  simp (disch:=omega) only [Pa,amL]
  repeat' first | (refine Ax (by kernel_rfl) rfl (Ac8 _) (by first | exact .inl rfl | exact .inr (.inl rfl)) ?_ ; simp (disch:=omega) only [Pa,Ly,amL]) | (refine Ax (by kernel_rfl) rfl (Nd _ _) (by first | exact .inl rfl | exact .inr (.inl rfl)) ?_ ; simp (disch:=omega) only [Su,Pa,Ly,H6,Fh,amL,amT,sA,sB,sC,sE,sF,↓reduceIte,reduceCtorEq]) | (refine Ax (by kernel_rfl) rfl (Aqm) (by first | exact .inl rfl | exact .inr (.inl rfl)) ?_ ; simp (disch:=omega) only [amL,sA,sF,↓reduceIte])
  refine hK4 _ ?_
  refine Ab fun K5 hK5=>?_
  refine Mm 0 ?_
  simp (disch:=omega) only [Su,H6,Fh,amL,amT,sA,sB,sE,↓reduceIte,reduceCtorEq]
  repeat' first | (refine Ax (by kernel_rfl) rfl (Afh) (by first | exact .inl rfl | exact .inr (.inl rfl)) ?_ ; simp (disch:=omega) only [amL,sA,sF,↓reduceIte])
  refine hK5 _ ?_
  refine Ab fun K6 hK6=>?_
  refine Xx [true,false,false,false,false,true] ?_
  simp (disch:=omega) only [Ad2,Aa8,Ud,H6,Fh,amL,amT,sA,sB,sE,↓reduceIte,reduceCtorEq]
  repeat' first | (refine Ax (by kernel_rfl) rfl (Nd _ _) (by first | exact .inl rfl | exact .inr (.inl rfl)) ?_ ; simp (disch:=omega) only [Age,Ad2,Aa8,Ud,H6,Fh,amL,amT,sA,sB,sC,sE,sF,↓reduceIte,reduceCtorEq]) | (refine Ax (by kernel_rfl) rfl (Ay4) (by first | exact .inl rfl | exact .inr (.inl rfl)) ?_ ; simp (disch:=omega) only [amL,sA,sF,↓reduceIte])
  refine hK6 _ ?_
  refine Ad fun K7 hK7=>?_
  simp (disch:=omega) only [amL]
  repeat' first | (refine Ax (by kernel_rfl) rfl (Ac8 _) (by first | exact .inl rfl | exact .inr (.inl rfl)) ?_ ; simp (disch:=omega) only [amL,↓reduceIte]) | (refine Ax (by kernel_rfl) rfl (An4) (by first | exact .inl rfl | exact .inr (.inl rfl)) ?_ ; simp (disch:=omega) only [amL,sA,sF,↓reduceIte])
  refine hK7 _ ?_
  refine Ab fun K8 hK8=>?_
  refine Cj (by kernel_rfl) (by kernel_rfl) ?_
  simp only [List.append]
  simp (disch:=omega) only [e1,e2,amL,amT,sA,sB,sE,sF,sH,sK,sL,sN,↓reduceIte]
  repeat' first | (refine E3 (fun h=>?_) (fun h=>?_) <;> simp (disch:=omega) only [h,Su,Pa,Ly,Age,Ad2,Aa8,Ud,H6,Fh,e1,e2,e3,e4,amL,amT,sA,sB,sC,sD,sE,sF,sG,sH,sI,sJ,sK,sL,sM,sN,sO,↓reduceIte,reduceCtorEq]) | (refine Cz (fun h=>?_) (fun h=>?_) <;> simp (disch:=omega) only [h,Su,Pa,Ly,Age,Ad2,Aa8,Ud,H6,Fh,e1,e2,e3,e4,amL,amT,sA,sB,sC,sD,sE,sF,sG,sH,sI,sJ,sK,sL,sM,sN,sO,↓reduceIte,reduceCtorEq]) | (refine Ax (by kernel_rfl) rfl (Nd _ _) (by first | exact .inl rfl | exact .inr (.inl rfl)) ?_ ; simp (disch:=omega) only [e3,e4,amL,amT,sA,sB,sE,sF,sH,sK,sL,sN,↓reduceIte,reduceCtorEq]) | (refine Ax (by kernel_rfl) rfl (by first | exact Asd | exact Ap7) (by first | exact .inl rfl | exact .inr (.inl rfl)) ?_ ; simp (disch:=omega) only [amL,amT,sA,sB,sE,sF,sH,↓reduceIte,reduceCtorEq]) | (refine Ax (by kernel_rfl) rfl (Ac8 _) (by first | exact .inl rfl | exact .inr (.inl rfl)) ?_ ; simp (disch:=omega) only [amL,sA,sF,↓reduceIte]) | (refine Ax (by kernel_rfl) rfl (Ar1) (by first | exact .inl rfl | exact .inr (.inl rfl)) ?_ ; simp (disch:=omega) only [amL,sA,sF,↓reduceIte])
  all_goals
   skip
   refine hK8 _ ?_
   refine Aj ?_
   try simp (disch:=omega) only [amL,↓reduceIte]
   all_goals rfl
end AM.Try
end
/- The statements: brewhouses, truths, readings that are read. -/
section
namespace AM.Try
open Go AM AM.Wort Go.ChangeShapes Go.WideShapes Go.ChangeAt Go.RowKit Go.Proofs
open Nat renaming reduceLT→sA,reduceAdd→sB,reduceMul→sC,reduceSub→sD,reduceLeDiff→sE,reduceEqDiff→sF,reduceBEq→sG
open Int renaming reduceAdd→sH,reduceSub→sI,reduceMul→sJ,reduceLT→sK,reduceLE→sL,reduceNeg→sM,reduceToNat→sN,reduceEq→sO
set_option maxRecDepth 100000
theorem Ary:laidOutB Tryz.prog=true:=by kernel_rfl
theorem Ap4:mapsRowed Tryz.prog=true:=by kernel_rfl
theorem brP:BrP Tryz.prog:=⟨kids_rows Ary Ap4,slices_full_of Tryz.prog (by kernel_rfl),Tryz.underlying4⟩
theorem tp_own:ownKnob Tryz.prog.godebug=none:=by kernel_rfl
theorem flN:Pb Tryz.prog 3 1:=Al5 Tryz.underlying3
theorem flR:Pb Tryz.prog 55 2:=Jr Tryz.underlying55 (by kernel_rfl) (fun f hf=>by simp at hf; rcases hf with rfl | rfl <;> exact ⟨_,flN⟩) (by kernel_rfl)
theorem flV:Pb Tryz.prog 92 5:=Jr Tryz.underlying92 (by kernel_rfl) (fun f hf=>by simp at hf; rcases hf with rfl | rfl | rfl <;> first | exact ⟨_,flN⟩ | exact ⟨_,flR⟩) (by kernel_rfl)
theorem flS:Pb Tryz.prog 94 5:=Jr Tryz.underlying94 (by kernel_rfl) (fun f hf=>by simp at hf; rcases hf with rfl | rfl | rfl | rfl <;> first | exact ⟨_,flN⟩ | exact ⟨_,flR⟩) (by kernel_rfl)
theorem flD:Pb Tryz.prog 70 5:=Jr Tryz.underlying70 (by kernel_rfl) (fun f hf=>by simp at hf; rcases hf with rfl | rfl | rfl <;> first | exact ⟨_,flN⟩ | exact ⟨_,flR⟩) (by kernel_rfl)
section
variable {H:Type} {enc:TypeId × Value→H} {W:World} {base:Nat} {v:Value} {d:DataW H} {p:List MemPlace}
theorem open_brew (hv:Value.okWide Tryz.prog W .any base 25 v) (h:DataW.Trod enc Tryz.prog W 0 (fun _=>true) true 25 v d p):∃ b:Eg,Alh b∧∀ θ,Ak θ (fun _=>False) W (avB b) v:=by
 obtain ⟨R,h1,h2,h3⟩:=open_lists (ks:=[(92,5),(94,5)]) Tryz.underlying25 (by kernel_rfl) rfl (by kernel_rfl) (fun i f e k hf hk=>by
  match i,hf,hk with
  | 0,hf,hk=>cases hf; cases hk; exact ⟨rfl,by kernel_rfl,Tryz.underlying22,by kernel_rfl,flV⟩
  | 1,hf,hk=>cases hf; cases hk; exact ⟨rfl,by kernel_rfl,Tryz.underlying23,by kernel_rfl,flS⟩) hv h
 match R,h1 with
 | [vs,ss],_=>
  have g1:=h2 0 vs _ _ rfl rfl
  have g2:=h2 1 ss _ _ rfl rfl
  refine ⟨⟨vs.map mkV,ss.map mkS⟩,Arf g1 g2,fun θ=>?_⟩
  have e:=h3 θ
  simp only [List.map_cons,List.map_nil,← Us g1 mkV Aeo Aqd,← Us g2 mkS Pz Arw] at e
  exact e
theorem open_rdgs (hv:Value.okWide Tryz.prog W .any base 63 v) (h:DataW.Trod enc Tryz.prog W 0 (fun _=>true) true 63 v d p):∃ l:List Rdg,(∀ m ∈ l,Auk m)∧∀ θ,Ak θ (fun _=>False) W (.p (.sl (l.map Aye))) v:=by
 obtain ⟨R,h1,h2⟩:=open_rows Tryz.underlying63 (by kernel_rfl) flD hv h
 exact ⟨R.map mkD,Aam h1 mkD _ Azb,fun θ=>by rw [Us h1 mkD Aye Aqf]; exact h2 θ⟩
end
end AM.Try
end
