/- Lemmas for the proof: an abstract machine over the program's form in Lean, and the program's functions walked on it. -/
import Derived.Test.YtbgiddcgdgdmbaaGreatQ4
import Derived.Test.YtbgiddcgdgdmbaaGreatProg
import Derived.KernelRfl
/- What the program's tables say of its types, read off once. -/
section
namespace AM.Try
open Go AM Go.Proofs
theorem ty1:Ab Tryz.prog 1=⟨.other,1,8,[.nilFunc]⟩:=by kernel_rfl
theorem ty2:Ab Tryz.prog 2=⟨.int .i64,1,8,[.int .i64 0]⟩:=by kernel_rfl
theorem ty3:Ab Tryz.prog 3=⟨.int .i64,1,8,[.int .i64 0]⟩:=by kernel_rfl
theorem ty4:Ab Tryz.prog 4=⟨.bool,1,1,[.bool false]⟩:=by kernel_rfl
theorem ty5:Ab Tryz.prog 5=⟨.int .u8,1,1,[.int .u8 0]⟩:=by kernel_rfl
theorem ty6:Ab Tryz.prog 6=⟨.int .u8,1,1,[.int .u8 0]⟩:=by kernel_rfl
theorem ty7:Ab Tryz.prog 7=⟨.struct [(0,2),(1,3),(2,4),(3,6)],4,24,[.int .i64 0,.int .i64 0,.bool false,.int .u8 0]⟩:=by kernel_rfl
theorem ty8:Ab Tryz.prog 8=⟨.struct [(0,2),(1,3),(2,4),(3,6)],4,24,[.int .i64 0,.int .i64 0,.bool false,.int .u8 0]⟩:=by kernel_rfl
theorem Bab:Ab Tryz.prog 12=⟨.int .u64,1,8,[.int .u64 0]⟩:=by kernel_rfl
theorem Bag:Ab Tryz.prog 15=⟨.other,1,8,[.pointer none]⟩:=by kernel_rfl
theorem Bdk:Ab Tryz.prog 16=⟨.other,1,8,[.pointer none]⟩:=by kernel_rfl
theorem Bal:Ab Tryz.prog 17=⟨.other,1,8,[.pointer none]⟩:=by kernel_rfl
theorem Bc8:Ab Tryz.prog 18=⟨.struct [(0,17)],1,8,[.pointer none]⟩:=by kernel_rfl
theorem Azq:Ab Tryz.prog 19=⟨.struct [(0,17)],1,8,[.pointer none]⟩:=by kernel_rfl
theorem Azz:Ab Tryz.prog 20=⟨.other,1,16,[.nilIface]⟩:=by kernel_rfl
theorem Bam:Ab Tryz.prog 21=⟨.int .i32,1,4,[.int .i32 0]⟩:=by kernel_rfl
theorem Bac:Ab Tryz.prog 22=⟨.sl 92,1,24,[.slice none 0 0]⟩:=by kernel_rfl
theorem Bc9:Ab Tryz.prog 23=⟨.sl 94,1,24,[.slice none 0 0]⟩:=by kernel_rfl
theorem Bdl:Ab Tryz.prog 24=⟨.struct [(0,22),(1,23)],2,48,[.slice none 0 0,.slice none 0 0]⟩:=by kernel_rfl
theorem Bdd:Ab Tryz.prog 25=⟨.struct [(0,22),(1,23)],2,48,[.slice none 0 0,.slice none 0 0]⟩:=by kernel_rfl
theorem Bau:Ab Tryz.prog 26=⟨.sl 3,1,24,[.slice none 0 0]⟩:=by kernel_rfl
theorem Bbb:Ab Tryz.prog 27=⟨.struct [(0,26),(1,26),(2,26)],3,72,[.slice none 0 0,.slice none 0 0,.slice none 0 0]⟩:=by kernel_rfl
theorem Azx:Ab Tryz.prog 28=⟨.struct [(0,26),(1,26),(2,26)],3,72,[.slice none 0 0,.slice none 0 0,.slice none 0 0]⟩:=by kernel_rfl
theorem Baf:Ab Tryz.prog 29=⟨.other,1,8,[.nilFunc]⟩:=by kernel_rfl
theorem Bcm:Ab Tryz.prog 30=⟨.other,1,8,[.nilFunc]⟩:=by kernel_rfl
theorem Bbe:Ab Tryz.prog 31=⟨.sl 90,1,24,[.slice none 0 0]⟩:=by kernel_rfl
theorem Azd:Ab Tryz.prog 32=⟨.int .i64,1,8,[.int .i64 0]⟩:=by kernel_rfl
theorem Bcr:Ab Tryz.prog 34=⟨.other,1,8,[.nilFunc]⟩:=by kernel_rfl
theorem Azc:Ab Tryz.prog 35=⟨.sl 128,1,24,[.slice none 0 0]⟩:=by kernel_rfl
theorem Ba4:Ab Tryz.prog 36=⟨.sl 135,1,24,[.slice none 0 0]⟩:=by kernel_rfl
theorem Bbp:Ab Tryz.prog 37=⟨.struct [(0,35),(1,36)],2,48,[.slice none 0 0,.slice none 0 0]⟩:=by kernel_rfl
theorem Bb4:Ab Tryz.prog 38=⟨.struct [(0,35),(1,36)],2,48,[.slice none 0 0,.slice none 0 0]⟩:=by kernel_rfl
theorem Azg:Ab Tryz.prog 39=⟨.other,1,8,[.nilFunc]⟩:=by kernel_rfl
theorem Ba9:Ab Tryz.prog 40=⟨.struct [(0,26),(1,26),(2,26)],3,72,[.slice none 0 0,.slice none 0 0,.slice none 0 0]⟩:=by kernel_rfl
theorem Bbo:Ab Tryz.prog 41=⟨.other,1,8,[.nilFunc]⟩:=by kernel_rfl
theorem Bcv:Ab Tryz.prog 42=⟨.other,1,8,[.nilFunc]⟩:=by kernel_rfl
theorem Azo:Ab Tryz.prog 43=⟨.other,1,8,[.nilFunc]⟩:=by kernel_rfl
theorem Azn:Ab Tryz.prog 44=⟨.sl 137,1,24,[.slice none 0 0]⟩:=by kernel_rfl
theorem Bcq:Ab Tryz.prog 46=⟨.other,1,8,[.nilFunc]⟩:=by kernel_rfl
theorem Bdj:Ab Tryz.prog 47=⟨.other,1,8,[.nilFunc]⟩:=by kernel_rfl
theorem Bb2:Ab Tryz.prog 48=⟨.other,1,8,[.nilFunc]⟩:=by kernel_rfl
theorem Azl:Ab Tryz.prog 49=⟨.sl 60,1,24,[.slice none 0 0]⟩:=by kernel_rfl
theorem Azw:Ab Tryz.prog 51=⟨.other,1,8,[.nilFunc]⟩:=by kernel_rfl
theorem Bco:Ab Tryz.prog 52=⟨.sl 44,1,24,[.slice none 0 0]⟩:=by kernel_rfl
theorem Azi:Ab Tryz.prog 53=⟨.other,1,8,[.nilFunc]⟩:=by kernel_rfl
theorem Bdi:Ab Tryz.prog 54=⟨.struct [(0,3),(1,3)],2,16,[.int .i64 0,.int .i64 0]⟩:=by kernel_rfl
theorem Bax:Ab Tryz.prog 55=⟨.struct [(0,3),(1,3)],2,16,[.int .i64 0,.int .i64 0]⟩:=by kernel_rfl
theorem Bae:Ab Tryz.prog 57=⟨.other,1,8,[.nilFunc]⟩:=by kernel_rfl
theorem Aze:Ab Tryz.prog 58=⟨.struct [(0,3),(1,3)],2,16,[.int .i64 0,.int .i64 0]⟩:=by kernel_rfl
theorem Bao:Ab Tryz.prog 59=⟨.struct [(0,58),(2,58),(4,58)],6,48,[.int .i64 0,.int .i64 0,.int .i64 0,.int .i64 0,.int .i64 0,.int .i64 0]⟩:=by kernel_rfl
theorem Bbr:Ab Tryz.prog 60=⟨.struct [(0,58),(2,58),(4,58)],6,48,[.int .i64 0,.int .i64 0,.int .i64 0,.int .i64 0,.int .i64 0,.int .i64 0]⟩:=by kernel_rfl
theorem Bbm:Ab Tryz.prog 61=⟨.other,1,8,[.nilFunc]⟩:=by kernel_rfl
theorem Bbn:Ab Tryz.prog 62=⟨.other,1,8,[.nilFunc]⟩:=by kernel_rfl
theorem Ba7:Ab Tryz.prog 63=⟨.sl 70,1,24,[.slice none 0 0]⟩:=by kernel_rfl
theorem Bbi:Ab Tryz.prog 65=⟨.other,1,8,[.nilFunc]⟩:=by kernel_rfl
theorem Bbg:Ab Tryz.prog 66=⟨.sl 103,1,24,[.slice none 0 0]⟩:=by kernel_rfl
theorem Bca:Ab Tryz.prog 67=⟨.other,1,8,[.nilFunc]⟩:=by kernel_rfl
theorem Az2:Ab Tryz.prog 68=⟨.other,1,8,[.nilFunc]⟩:=by kernel_rfl
theorem Baj:Ab Tryz.prog 69=⟨.struct [(0,3),(1,55),(3,55)],5,40,[.int .i64 0,.int .i64 0,.int .i64 0,.int .i64 0,.int .i64 0]⟩:=by kernel_rfl
theorem Bb5:Ab Tryz.prog 70=⟨.struct [(0,3),(1,55),(3,55)],5,40,[.int .i64 0,.int .i64 0,.int .i64 0,.int .i64 0,.int .i64 0]⟩:=by kernel_rfl
theorem Az1:Ab Tryz.prog 71=⟨.other,1,8,[.nilFunc]⟩:=by kernel_rfl
theorem Bc5:Ab Tryz.prog 72=⟨.other,1,8,[.nilFunc]⟩:=by kernel_rfl
theorem Bar:Ab Tryz.prog 73=⟨.other,1,8,[.nilFunc]⟩:=by kernel_rfl
theorem Bcx:Ab Tryz.prog 75=⟨.other,1,8,[.nilFunc]⟩:=by kernel_rfl
theorem Azm:Ab Tryz.prog 76=⟨.other,1,8,[.nilFunc]⟩:=by kernel_rfl
theorem Bc2:Ab Tryz.prog 77=⟨.other,1,8,[.nilFunc]⟩:=by kernel_rfl
theorem Bdm:Ab Tryz.prog 78=⟨.other,1,8,[.nilFunc]⟩:=by kernel_rfl
theorem Bb9:Ab Tryz.prog 79=⟨.other,1,8,[.nilFunc]⟩:=by kernel_rfl
theorem Bcy:Ab Tryz.prog 80=⟨.other,1,8,[.nilFunc]⟩:=by kernel_rfl
theorem Bcb:Ab Tryz.prog 81=⟨.other,1,8,[.nilFunc]⟩:=by kernel_rfl
theorem Azt:Ab Tryz.prog 82=⟨.other,1,8,[.nilFunc]⟩:=by kernel_rfl
theorem Ba0:Ab Tryz.prog 83=⟨.int .u16,1,2,[.int .u16 0]⟩:=by kernel_rfl
theorem Ba8:Ab Tryz.prog 85=⟨.other,1,8,[.nilFunc]⟩:=by kernel_rfl
theorem Azs:Ab Tryz.prog 86=⟨.other,1,8,[.nilFunc]⟩:=by kernel_rfl
theorem Bb0:Ab Tryz.prog 87=⟨.other,1,8,[.nilFunc]⟩:=by kernel_rfl
theorem Bbz:Ab Tryz.prog 88=⟨.other,1,8,[.nilFunc]⟩:=by kernel_rfl
theorem Bcf:Ab Tryz.prog 89=⟨.struct [(0,3),(1,3),(2,3)],3,24,[.int .i64 0,.int .i64 0,.int .i64 0]⟩:=by kernel_rfl
theorem Bc1:Ab Tryz.prog 90=⟨.struct [(0,3),(1,3),(2,3)],3,24,[.int .i64 0,.int .i64 0,.int .i64 0]⟩:=by kernel_rfl
theorem Bc0:Ab Tryz.prog 91=⟨.struct [(0,55),(2,55),(4,3)],5,40,[.int .i64 0,.int .i64 0,.int .i64 0,.int .i64 0,.int .i64 0]⟩:=by kernel_rfl
theorem Bbu:Ab Tryz.prog 92=⟨.struct [(0,55),(2,55),(4,3)],5,40,[.int .i64 0,.int .i64 0,.int .i64 0,.int .i64 0,.int .i64 0]⟩:=by kernel_rfl
theorem Baq:Ab Tryz.prog 93=⟨.struct [(0,3),(1,3),(2,3),(3,55)],5,40,[.int .i64 0,.int .i64 0,.int .i64 0,.int .i64 0,.int .i64 0]⟩:=by kernel_rfl
theorem Ba6:Ab Tryz.prog 94=⟨.struct [(0,3),(1,3),(2,3),(3,55)],5,40,[.int .i64 0,.int .i64 0,.int .i64 0,.int .i64 0,.int .i64 0]⟩:=by kernel_rfl
theorem Bad:Ab Tryz.prog 95=⟨.other,1,8,[.nilFunc]⟩:=by kernel_rfl
theorem Bb3:Ab Tryz.prog 96=⟨.arr 6 4,6,6,[.bool false,.bool false,.bool false,.bool false,.bool false,.bool false]⟩:=by kernel_rfl
theorem Az5:Ab Tryz.prog 97=⟨.other,1,8,[.nilFunc]⟩:=by kernel_rfl
theorem Bcn:Ab Tryz.prog 99=⟨.other,1,8,[.nilFunc]⟩:=by kernel_rfl
theorem Awf:Ab Tryz.prog 100=⟨.int .u64,1,8,[.int .u64 0]⟩:=by kernel_rfl
theorem Avv:Ab Tryz.prog 101=⟨.other,1,8,[.nilFunc]⟩:=by kernel_rfl
theorem Au9:Ab Tryz.prog 102=⟨.struct [(0,3),(1,58),(3,58)],5,40,[.int .i64 0,.int .i64 0,.int .i64 0,.int .i64 0,.int .i64 0]⟩:=by kernel_rfl
theorem At9:Ab Tryz.prog 103=⟨.struct [(0,3),(1,58),(3,58)],5,40,[.int .i64 0,.int .i64 0,.int .i64 0,.int .i64 0,.int .i64 0]⟩:=by kernel_rfl
theorem Aub:Ab Tryz.prog 104=⟨.other,1,8,[.nilFunc]⟩:=by kernel_rfl
theorem Av0:Ab Tryz.prog 105=⟨.other,1,8,[.nilFunc]⟩:=by kernel_rfl
theorem Asu:Ab Tryz.prog 106=⟨.other,1,8,[.nilFunc]⟩:=by kernel_rfl
theorem Aux:Ab Tryz.prog 107=⟨.other,1,8,[.nilFunc]⟩:=by kernel_rfl
theorem Att:Ab Tryz.prog 108=⟨.other,1,8,[.nilFunc]⟩:=by kernel_rfl
theorem Avy:Ab Tryz.prog 109=⟨.other,1,8,[.nilFunc]⟩:=by kernel_rfl
theorem As2:Ab Tryz.prog 111=⟨.other,1,8,[.nilFunc]⟩:=by kernel_rfl
theorem Au2:Ab Tryz.prog 112=⟨.other,1,8,[.nilFunc]⟩:=by kernel_rfl
theorem Atp:Ab Tryz.prog 113=⟨.sl 58,1,24,[.slice none 0 0]⟩:=by kernel_rfl
theorem Atq:Ab Tryz.prog 114=⟨.other,1,8,[.nilFunc]⟩:=by kernel_rfl
theorem Av2:Ab Tryz.prog 115=⟨.other,1,8,[.nilFunc]⟩:=by kernel_rfl
theorem Auh:Ab Tryz.prog 116=⟨.other,1,8,[.nilFunc]⟩:=by kernel_rfl
theorem Awm:Ab Tryz.prog 117=⟨.struct [(0,3),(1,3)],2,16,[.int .i64 0,.int .i64 0]⟩:=by kernel_rfl
theorem Av8:Ab Tryz.prog 118=⟨.struct [(0,3),(1,3)],2,16,[.int .i64 0,.int .i64 0]⟩:=by kernel_rfl
theorem At0:Ab Tryz.prog 119=⟨.arr 4 118,8,64,[.int .i64 0,.int .i64 0,.int .i64 0,.int .i64 0,.int .i64 0,.int .i64 0,.int .i64 0,.int .i64 0]⟩:=by kernel_rfl
theorem Agi:Ab Tryz.prog 120=⟨.arr 4 118,8,64,[.int .i64 0,.int .i64 0,.int .i64 0,.int .i64 0,.int .i64 0,.int .i64 0,.int .i64 0,.int .i64 0]⟩:=by kernel_rfl
theorem Aul:Ab Tryz.prog 122=⟨.other,1,8,[.pointer none]⟩:=by kernel_rfl
theorem Aui:Ab Tryz.prog 123=⟨.other,1,8,[.nilFunc]⟩:=by kernel_rfl
theorem Atc:Ab Tryz.prog 124=⟨.other,1,8,[.nilFunc]⟩:=by kernel_rfl
theorem Avt:Ab Tryz.prog 125=⟨.sl 118,1,24,[.slice none 0 0]⟩:=by kernel_rfl
theorem Au4:Ab Tryz.prog 126=⟨.other,1,8,[.nilFunc]⟩:=by kernel_rfl
theorem Avx:Ab Tryz.prog 127=⟨.struct [(0,58),(2,58),(4,3)],5,40,[.int .i64 0,.int .i64 0,.int .i64 0,.int .i64 0,.int .i64 0]⟩:=by kernel_rfl
theorem Awk:Ab Tryz.prog 128=⟨.struct [(0,58),(2,58),(4,3)],5,40,[.int .i64 0,.int .i64 0,.int .i64 0,.int .i64 0,.int .i64 0]⟩:=by kernel_rfl
theorem At1:Ab Tryz.prog 129=⟨.other,1,8,[.nilFunc]⟩:=by kernel_rfl
theorem Aua:Ab Tryz.prog 130=⟨.other,1,8,[.nilFunc]⟩:=by kernel_rfl
theorem Auj:Ab Tryz.prog 131=⟨.other,1,8,[.nilFunc]⟩:=by kernel_rfl
theorem Av1:Ab Tryz.prog 132=⟨.other,1,8,[.nilFunc]⟩:=by kernel_rfl
theorem Ath:Ab Tryz.prog 133=⟨.other,1,8,[.nilFunc]⟩:=by kernel_rfl
theorem At6:Ab Tryz.prog 134=⟨.struct [(0,3),(1,3),(2,3),(3,58)],5,40,[.int .i64 0,.int .i64 0,.int .i64 0,.int .i64 0,.int .i64 0]⟩:=by kernel_rfl
theorem Avg:Ab Tryz.prog 135=⟨.struct [(0,3),(1,3),(2,3),(3,58)],5,40,[.int .i64 0,.int .i64 0,.int .i64 0,.int .i64 0,.int .i64 0]⟩:=by kernel_rfl
theorem Avk:Ab Tryz.prog 136=⟨.other,1,8,[.nilFunc]⟩:=by kernel_rfl
theorem Atn:Ab Tryz.prog 137=⟨.struct [(0,3),(1,3),(2,3)],3,24,[.int .i64 0,.int .i64 0,.int .i64 0]⟩:=by kernel_rfl
theorem At2:Ab Tryz.prog 138=⟨.other,1,8,[.nilFunc]⟩:=by kernel_rfl
theorem As3:Ab Tryz.prog 139=⟨.other,1,8,[.nilFunc]⟩:=by kernel_rfl
theorem Aws:Ab Tryz.prog 140=⟨.other,1,8,[.nilFunc]⟩:=by kernel_rfl
theorem Asy:Ab Tryz.prog 141=⟨.other,1,8,[.pointer none]⟩:=by kernel_rfl
theorem Av7:Ab Tryz.prog 142=⟨.other,1,8,[.nilFunc]⟩:=by kernel_rfl
theorem As0:Ab Tryz.prog 143=⟨.other,1,8,[.nilFunc]⟩:=by kernel_rfl
theorem Ave:Ab Tryz.prog 144=⟨.other,1,8,[.nilFunc]⟩:=by kernel_rfl
theorem Avn:Ab Tryz.prog 145=⟨.other,1,8,[.nilFunc]⟩:=by kernel_rfl
theorem Avd:Ab Tryz.prog 146=⟨.other,1,8,[.nilFunc]⟩:=by kernel_rfl
theorem Avf:Ab Tryz.prog 147=⟨.other,1,8,[.nilFunc]⟩:=by kernel_rfl
theorem Atd:Ab Tryz.prog 149=⟨.other,1,8,[.nilFunc]⟩:=by kernel_rfl
theorem Awg:Ab Tryz.prog 150=⟨.other,1,8,[.nilFunc]⟩:=by kernel_rfl
theorem Auk:Ab Tryz.prog 151=⟨.other,1,8,[.nilFunc]⟩:=by kernel_rfl
theorem Avh:Ab Tryz.prog 152=⟨.other,1,8,[.nilFunc]⟩:=by kernel_rfl
theorem Avb:Ab Tryz.prog 153=⟨.other,1,8,[.nilFunc]⟩:=by kernel_rfl
theorem Awb:Ab Tryz.prog 154=⟨.other,1,8,[.nilFunc]⟩:=by kernel_rfl
theorem At5:Ab Tryz.prog 155=⟨.other,1,8,[.nilFunc]⟩:=by kernel_rfl
theorem Asz:Ab Tryz.prog 156=⟨.struct [(0,155)],1,8,[.nilFunc]⟩:=by kernel_rfl
theorem Atl:Ab Tryz.prog 157=⟨.struct [(0,155)],1,8,[.nilFunc]⟩:=by kernel_rfl
theorem Auw:Ab Tryz.prog 158=⟨.arr 3 157,3,24,[.nilFunc,.nilFunc,.nilFunc]⟩:=by kernel_rfl
theorem As7:Ab Tryz.prog 159=⟨.other,1,8,[.nilFunc]⟩:=by kernel_rfl
theorem Aum:Ab Tryz.prog 160=⟨.other,1,8,[.pointer none]⟩:=by kernel_rfl
theorem Ats:Ab Tryz.prog 162=⟨.other,1,8,[.nilFunc]⟩:=by kernel_rfl
theorem Avj:Ab Tryz.prog 163=⟨.other,1,8,[.nilFunc]⟩:=by kernel_rfl
theorem Au6:Ab Tryz.prog 164=⟨.other,1,8,[.nilFunc]⟩:=by kernel_rfl
theorem Av4:Ab Tryz.prog 165=⟨.other,1,8,[.nilFunc]⟩:=by kernel_rfl
theorem Aud:Ab Tryz.prog 166=⟨.other,1,8,[.nilFunc]⟩:=by kernel_rfl
theorem Aun:Ab Tryz.prog 167=⟨.other,1,8,[.pointer none]⟩:=by kernel_rfl
theorem Atk:Ab Tryz.prog 168=⟨.other,1,8,[.nilFunc]⟩:=by kernel_rfl
theorem Awh:Ab Tryz.prog 169=⟨.other,1,8,[.nilFunc]⟩:=by kernel_rfl
theorem Atf:Ab Tryz.prog 170=⟨.other,1,8,[.nilFunc]⟩:=by kernel_rfl
theorem Awq:Ab Tryz.prog 171=⟨.other,1,8,[.nilFunc]⟩:=by kernel_rfl
theorem Ava:Ab Tryz.prog 172=⟨.other,1,8,[.nilFunc]⟩:=by kernel_rfl
theorem Atg:Ab Tryz.prog 173=⟨.other,1,8,[.nilFunc]⟩:=by kernel_rfl
theorem At8:Ab Tryz.prog 174=⟨.other,1,8,[.nilFunc]⟩:=by kernel_rfl
theorem Auf:Ab Tryz.prog 175=⟨.mp 3 4,1,8,[.map none]⟩:=by kernel_rfl
theorem Awp:Ab Tryz.prog 176=⟨.sl 26,1,24,[.slice none 0 0]⟩:=by kernel_rfl
theorem Auc:Ab Tryz.prog 177=⟨.other,1,8,[.nilFunc]⟩:=by kernel_rfl
theorem Awr:Ab Tryz.prog 178=⟨.mp 194 196,1,8,[.map none]⟩:=by kernel_rfl
theorem Atz:Ab Tryz.prog 179=⟨.struct [(0,38),(2,178)],3,56,[.slice none 0 0,.slice none 0 0,.map none]⟩:=by kernel_rfl
theorem Au0:Ab Tryz.prog 180=⟨.struct [(0,38),(2,178)],3,56,[.slice none 0 0,.slice none 0 0,.map none]⟩:=by kernel_rfl
theorem Awc:Ab Tryz.prog 181=⟨.other,1,8,[.nilFunc]⟩:=by kernel_rfl
theorem Asw:Ab Tryz.prog 182=⟨.other,1,8,[.nilFunc]⟩:=by kernel_rfl
theorem Asv:Ab Tryz.prog 183=⟨.other,1,8,[.nilFunc]⟩:=by kernel_rfl
theorem Atx:Ab Tryz.prog 184=⟨.other,1,8,[.nilFunc]⟩:=by kernel_rfl
theorem Asx:Ab Tryz.prog 185=⟨.other,1,8,[.nilFunc]⟩:=by kernel_rfl
theorem Awd:Ab Tryz.prog 186=⟨.other,1,8,[.nilFunc]⟩:=by kernel_rfl
theorem Avl:Ab Tryz.prog 187=⟨.other,1,8,[.nilFunc]⟩:=by kernel_rfl
theorem Au5:Ab Tryz.prog 188=⟨.other,1,8,[.nilFunc]⟩:=by kernel_rfl
theorem Au7:Ab Tryz.prog 189=⟨.other,1,8,[.nilFunc]⟩:=by kernel_rfl
theorem Atv:Ab Tryz.prog 190=⟨.other,1,8,[.nilFunc]⟩:=by kernel_rfl
theorem At3:Ab Tryz.prog 191=⟨.other,1,8,[.nilFunc]⟩:=by kernel_rfl
theorem At4:Ab Tryz.prog 192=⟨.other,1,8,[.nilFunc]⟩:=by kernel_rfl
theorem Ate:Ab Tryz.prog 193=⟨.struct [(0,135),(5,3),(6,120)],14,112,[.int .i64 0,.int .i64 0,.int .i64 0,.int .i64 0,.int .i64 0,.int .i64 0,.int .i64 0,.int .i64 0,.int .i64 0,.int .i64 0,.int .i64 0,.int .i64 0,.int .i64 0,.int .i64 0]⟩:=by kernel_rfl
theorem Auv:Ab Tryz.prog 194=⟨.struct [(0,135),(5,3),(6,120)],14,112,[.int .i64 0,.int .i64 0,.int .i64 0,.int .i64 0,.int .i64 0,.int .i64 0,.int .i64 0,.int .i64 0,.int .i64 0,.int .i64 0,.int .i64 0,.int .i64 0,.int .i64 0,.int .i64 0]⟩:=by kernel_rfl
theorem As5:Ab Tryz.prog 195=⟨.struct [(0,120),(8,4)],9,72,[.int .i64 0,.int .i64 0,.int .i64 0,.int .i64 0,.int .i64 0,.int .i64 0,.int .i64 0,.int .i64 0,.bool false]⟩:=by kernel_rfl
theorem Auq:Ab Tryz.prog 196=⟨.struct [(0,120),(8,4)],9,72,[.int .i64 0,.int .i64 0,.int .i64 0,.int .i64 0,.int .i64 0,.int .i64 0,.int .i64 0,.int .i64 0,.bool false]⟩:=by kernel_rfl
theorem Avc:Ab Tryz.prog 198=⟨.other,1,8,[.nilFunc]⟩:=by kernel_rfl
theorem Avu:Ab Tryz.prog 199=⟨.other,1,8,[.nilFunc]⟩:=by kernel_rfl
theorem Av6:Ab Tryz.prog 200=⟨.other,1,8,[.nilFunc]⟩:=by kernel_rfl
theorem Atr:Ab Tryz.prog 201=⟨.other,1,8,[.nilFunc]⟩:=by kernel_rfl
theorem Atb:Ab Tryz.prog 202=⟨.other,1,8,[.nilFunc]⟩:=by kernel_rfl
theorem Avi:Ab Tryz.prog 203=⟨.other,1,8,[.nilFunc]⟩:=by kernel_rfl
theorem Aug:Ab Tryz.prog 204=⟨.other,1,8,[.nilFunc]⟩:=by kernel_rfl
theorem Awn:Ab Tryz.prog 205=⟨.other,1,8,[.nilFunc]⟩:=by kernel_rfl
theorem Awl:Ab Tryz.prog 206=⟨.other,1,8,[.pointer none]⟩:=by kernel_rfl
theorem Auz:Ab Tryz.prog 207=⟨.other,1,8,[.nilFunc]⟩:=by kernel_rfl
theorem Av3:Ab Tryz.prog 208=⟨.other,1,8,[.nilFunc]⟩:=by kernel_rfl
theorem As6:Ab Tryz.prog 209=⟨.other,1,8,[.nilFunc]⟩:=by kernel_rfl
theorem Aty:Ab Tryz.prog 212=⟨.arr 0 16,0,0,[]⟩:=by kernel_rfl
theorem Ast:Ab Tryz.prog 213=⟨.struct [(0,212)],0,0,[]⟩:=by kernel_rfl
theorem Au1:Ab Tryz.prog 214=⟨.struct [(0,212)],0,0,[]⟩:=by kernel_rfl
theorem As1:Ab Tryz.prog 215=⟨.int .u32,1,4,[.int .u32 0]⟩:=by kernel_rfl
theorem Avq:Ab Tryz.prog 216=⟨.int .u8,1,1,[.int .u8 0]⟩:=by kernel_rfl
theorem Awo:Ab Tryz.prog 217=⟨.int .u8,1,1,[.int .u8 0]⟩:=by kernel_rfl
theorem Atw:Ab Tryz.prog 218=⟨.other,1,8,[.nilFunc]⟩:=by kernel_rfl
theorem Avo:Ab Tryz.prog 219=⟨.other,1,8,[.pointer none]⟩:=by kernel_rfl
theorem Ata:Ab Tryz.prog 220=⟨.int .i32,1,4,[.int .i32 0]⟩:=by kernel_rfl
theorem Avm:Ab Tryz.prog 221=⟨.int .i32,1,4,[.int .i32 0]⟩:=by kernel_rfl
theorem Avw:Ab Tryz.prog 222=⟨.struct [(0,12),(1,12),(2,215),(3,216),(4,5),(5,5),(6,217),(7,218),(8,219),(9,220),(10,221)],11,48,[.int .u64 0,.int .u64 0,.int .u32 0,.int .u8 0,.int .u8 0,.int .u8 0,.int .u8 0,.nilFunc,.pointer none,.int .i32 0,.int .i32 0]⟩:=by kernel_rfl
theorem Avr:Ab Tryz.prog 223=⟨.struct [(0,12),(1,12),(2,215),(3,216),(4,5),(5,5),(6,217),(7,218),(8,219),(9,220),(10,221)],11,48,[.int .u64 0,.int .u64 0,.int .u32 0,.int .u8 0,.int .u8 0,.int .u8 0,.int .u8 0,.nilFunc,.pointer none,.int .i32 0,.int .i32 0]⟩:=by kernel_rfl
theorem At7:Ab Tryz.prog 224=⟨.other,1,8,[.pointer none]⟩:=by kernel_rfl
def Azv:=PLift.up (And.intro @ty1 (And.intro @ty2 (And.intro @ty3 (And.intro @ty4 (And.intro @ty5 (And.intro @ty6 (And.intro @ty7 (And.intro @ty8 (And.intro @Bab (And.intro @Bag (And.intro @Bdk (And.intro @Bal (And.intro @Bc8 (And.intro @Azq (And.intro @Azz (And.intro @Bam (And.intro @Bac (And.intro @Bc9 (And.intro @Bdl (And.intro @Bdd (And.intro @Bau (And.intro @Bbb (And.intro @Azx (@Baf))))))))))))))))))))))))
def Bbl:=PLift.up (And.intro @Bcm (And.intro @Bbe (And.intro @Azd (And.intro @Bcr (And.intro @Azc (And.intro @Ba4 (And.intro @Bbp (And.intro @Bb4 (And.intro @Azg (And.intro @Ba9 (And.intro @Bbo (And.intro @Bcv (And.intro @Azo (And.intro @Azn (And.intro @Bcq (And.intro @Bdj (And.intro @Bb2 (And.intro @Azl (And.intro @Azw (And.intro @Bco (And.intro @Azi (And.intro @Bdi (And.intro @Bax (@Bae))))))))))))))))))))))))
def Bct:=PLift.up (And.intro @Aze (And.intro @Bao (And.intro @Bbr (And.intro @Bbm (And.intro @Bbn (And.intro @Ba7 (And.intro @Bbi (And.intro @Bbg (And.intro @Bca (And.intro @Az2 (And.intro @Baj (And.intro @Bb5 (And.intro @Az1 (And.intro @Bc5 (And.intro @Bar (And.intro @Bcx (And.intro @Azm (And.intro @Bc2 (And.intro @Bdm (And.intro @Bb9 (And.intro @Bcy (And.intro @Bcb (And.intro @Azt (@Ba0))))))))))))))))))))))))
def Azj:=PLift.up (And.intro @Ba8 (And.intro @Azs (And.intro @Bb0 (And.intro @Bbz (And.intro @Bcf (And.intro @Bc1 (And.intro @Bc0 (And.intro @Bbu (And.intro @Baq (And.intro @Ba6 (And.intro @Bad (And.intro @Bb3 (And.intro @Az5 (And.intro @Bcn (And.intro @Awf (And.intro @Avv (And.intro @Au9 (And.intro @At9 (And.intro @Aub (And.intro @Av0 (And.intro @Asu (And.intro @Aux (And.intro @Att (@Avy))))))))))))))))))))))))
def Ba1:=PLift.up (And.intro @As2 (And.intro @Au2 (And.intro @Atp (And.intro @Atq (And.intro @Av2 (And.intro @Auh (And.intro @Awm (And.intro @Av8 (And.intro @At0 (And.intro @Agi (And.intro @Aul (And.intro @Aui (And.intro @Atc (And.intro @Avt (And.intro @Au4 (And.intro @Avx (And.intro @Awk (And.intro @At1 (And.intro @Aua (And.intro @Auj (And.intro @Av1 (And.intro @Ath (And.intro @At6 (@Avg))))))))))))))))))))))))
def Bcz:=PLift.up (And.intro @Avk (And.intro @Atn (And.intro @At2 (And.intro @As3 (And.intro @Aws (And.intro @Asy (And.intro @Av7 (And.intro @As0 (And.intro @Ave (And.intro @Avn (And.intro @Avd (And.intro @Avf (And.intro @Atd (And.intro @Awg (And.intro @Auk (And.intro @Avh (And.intro @Avb (And.intro @Awb (And.intro @At5 (And.intro @Asz (And.intro @Atl (And.intro @Auw (And.intro @As7 (@Aum))))))))))))))))))))))))
def Az6:=PLift.up (And.intro @Ats (And.intro @Avj (And.intro @Au6 (And.intro @Av4 (And.intro @Aud (And.intro @Aun (And.intro @Atk (And.intro @Awh (And.intro @Atf (And.intro @Awq (And.intro @Ava (And.intro @Atg (And.intro @At8 (And.intro @Auf (And.intro @Awp (And.intro @Auc (And.intro @Awr (And.intro @Atz (And.intro @Au0 (And.intro @Awc (And.intro @Asw (And.intro @Asv (And.intro @Atx (@Asx))))))))))))))))))))))))
def Bbt:=PLift.up (And.intro @Awd (And.intro @Avl (And.intro @Au5 (And.intro @Au7 (And.intro @Atv (And.intro @At3 (And.intro @At4 (And.intro @Ate (And.intro @Auv (And.intro @As5 (And.intro @Auq (And.intro @Avc (And.intro @Avu (And.intro @Av6 (And.intro @Atr (And.intro @Atb (And.intro @Avi (And.intro @Aug (And.intro @Awn (And.intro @Awl (And.intro @Auz (And.intro @Av3 (And.intro @As6 (@Aty))))))))))))))))))))))))
def Bbf:=PLift.up (And.intro @Ast (And.intro @Au1 (And.intro @As1 (And.intro @Avq (And.intro @Awo (And.intro @Atw (And.intro @Avo (And.intro @Ata (And.intro @Avm (And.intro @Avw (And.intro @Avr (@At7))))))))))))
def Ban:=PLift.up (And.intro Azv.down (And.intro Bbl.down (And.intro Bct.down (And.intro Azj.down (And.intro Ba1.down (And.intro Bcz.down (And.intro Az6.down (And.intro Bbt.down (Bbf.down)))))))))
theorem amT:type_of% Ban.down:=Ban.down
end AM.Try
end
/- The program's small functions: ranges, vessels, steps. -/
section
namespace AM.Try
open Go AM AM.Wort Go.Proofs
open Nat renaming reduceLT→sA,reduceAdd→sB,reduceMul→sC,reduceSub→sD,reduceLeDiff→sE,reduceEqDiff→sF,reduceBEq→sG
open Int renaming reduceAdd→sH,reduceSub→sI,reduceMul→sJ,reduceLT→sK,reduceLE→sL,reduceNeg→sM,reduceToNat→sN,reduceEq→sO
set_option maxRecDepth 100000
set_option maxHeartbeats 8000000
theorem J5 (n lo hi:Int):Bt Tryz.prog 75 [i64 n,i64 lo,i64 hi] (bl (inB n lo hi)):=by
  refine Bn (v:=[]) (q:=[]) (N:=15) (rs:=[.tmp 6]) Tryz.func75 rfl rfl rfl rfl rfl ?_
  refine Aa fun K1 hK1=>?_
  refine Ac ?_
  simp (disch:=omega) only [amL,sA,sB]
  refine hK1 _ ?_
  refine Aa fun K2 hK2=>?_
  refine Ac ?_
  simp (disch:=omega) only [amL,amT,sA,sF,↓reduceIte,reduceCtorEq]
  repeat' first | (refine E0 (fun h=>?_) (fun h=>?_) <;> simp (disch:=omega) only [h,amL,amT,sA,sF,↓reduceIte,reduceCtorEq]) | (refine Cz (fun h=>?_) (fun h=>?_) <;> simp (disch:=omega) only [h,amL,amT,sA,sB,sC,sD,sE,sF,sG,sH,sI,sJ,sK,sL,sM,sN,sO,↓reduceIte,reduceCtorEq])
  all_goals
   skip
   refine hK2 _ ?_
   refine Ah ?_
   try simp (disch:=omega) only [amL,↓reduceIte]
   simp [inB,h]
theorem Agu (r:Rng) (n:Int):Bt Tryz.prog 59 [avR r,i64 n] (bl (Jn r n)):=by
  refine Bn (v:=[]) (q:=[]) (N:=11) (rs:=[.tmp 4]) Tryz.func59 rfl rfl rfl rfl rfl ?_
  refine Aa fun K1 hK1=>?_
  refine Ac ?_
  simp (disch:=omega) only [amL,sA,sB,↓reduceIte]
  refine hK1 _ ?_
  refine Aa fun K2 hK2=>?_
  refine Ac ?_
  simp (disch:=omega) only [amL,amT,sA,sF,↓reduceIte,reduceCtorEq]
  repeat' first | (refine Aw (by kernel_rfl) rfl (J5 _ _ _) (by first | exact .inl rfl | exact .inr (.inl rfl)) ?_ ; simp (disch:=omega) only [amL,sA,↓reduceIte])
  refine hK2 _ ?_
  refine Ah ?_
  try simp (disch:=omega) only [amL,↓reduceIte]
  rfl
theorem Aeq (r:Rng) (h1:-9223372036854775808≤r.hi - r.lo) (h2:r.hi - r.lo < 9223372036854775807):Bt Tryz.prog 69 [avR r] (i64 (Fa r)):=by
  refine Bn (v:=[]) (q:=[]) (N:=9) (rs:=[.tmp 2]) Tryz.func69 rfl rfl rfl rfl rfl ?_
  refine Aa fun K1 hK1=>?_
  refine Ac ?_
  simp (disch:=omega) only [amL,sA,↓reduceIte]
  refine hK1 _ ?_
  refine Aa fun K2 hK2=>?_
  refine Ac ?_
  simp (disch:=omega) only [amL,amT,sA,sF,↓reduceIte,reduceCtorEq]
  refine hK2 _ ?_
  refine Ah ?_
  try simp (disch:=omega) only [amL,↓reduceIte]
  rfl
theorem Alw {r:Rng} {most:Int}:Hx r most=(decide (0≤r.lo)&&(decide (r.lo≤r.hi)&&(decide (r.hi≤most)&&decide (r.hi - r.lo≤2)))):=rfl
theorem Acy (r:Rng) (most:Int) (hm:most < 9223372036854775807):Bt Tryz.prog 104 [avR r,i64 most] (bl (Hx r most)):=by
  refine Bn (v:=[]) (q:=[]) (N:=29) (rs:=[.tmp 4]) Tryz.func104 rfl rfl rfl rfl rfl ?_
  refine Aa fun K1 hK1=>?_
  refine Ac ?_
  simp (disch:=omega) only [amL,sA,sB,↓reduceIte]
  refine hK1 _ ?_
  refine Aa fun K2 hK2=>?_
  refine Ac ?_
  simp (disch:=omega) only [amL,amT,sA,sF,↓reduceIte,reduceCtorEq]
  repeat' first | (refine E0 (fun h=>?_) (fun h=>?_) <;> simp (disch:=omega) only [h,amL,amT,sA,sF,↓reduceIte,reduceCtorEq]) | (refine Cz (fun h=>?_) (fun h=>?_) <;> simp (disch:=omega) only [h,amL,amT,sA,sB,sC,sD,sE,sF,sG,sH,sI,sJ,sK,sL,sM,sN,sO,↓reduceIte,reduceCtorEq])
  all_goals
   skip
   refine hK2 _ ?_
   refine Ah ?_
   try simp (disch:=omega) only [amL,↓reduceIte]
   all_goals (simp_all [Alw] <;> omega)
theorem Aph (v:Ves):Bt Tryz.prog 67 [avV v] (bl (Eu v)):=by
  refine Bn (v:=[]) (q:=[]) (N:=16) (rs:=[.tmp 2]) Tryz.func67 rfl rfl rfl rfl rfl ?_
  refine Aa fun K1 hK1=>?_
  refine Ac ?_
  simp (disch:=omega) only [amL,sA,↓reduceIte]
  refine hK1 _ ?_
  refine Aa fun K2 hK2=>?_
  refine Ac ?_
  simp (disch:=omega) only [amL,amT,sA,sB,sE,sF,↓reduceIte,reduceCtorEq]
  repeat' first | (refine E0 (fun h=>?_) (fun h=>?_) <;> simp (disch:=omega) only [h,amL,amT,sA,sB,sC,sD,sE,sF,sG,sH,sI,sJ,sK,sL,sM,sN,sO,↓reduceIte,reduceCtorEq]) | (refine Cz (fun h=>?_) (fun h=>?_) <;> simp (disch:=omega) only [h,amL,amT,sA,sB,sE,sF,↓reduceIte,reduceCtorEq]) | (refine Aw (by kernel_rfl) rfl (Acy ⟨_,_⟩ _ (by omega)) (by first | exact .inl rfl | exact .inr (.inl rfl)) ?_ ; simp (disch:=omega) only [amL,sA,sF,↓reduceIte]) | (refine Aw (by kernel_rfl) rfl (J5 _ _ _) (by first | exact .inl rfl | exact .inr (.inl rfl)) ?_ ; simp (disch:=omega) only [amL,sA,sF,↓reduceIte])
  all_goals
   skip
   refine hK2 _ ?_
   refine Ah ?_
   try simp (disch:=omega) only [amL,↓reduceIte]
   all_goals simp_all [Eu]
theorem Ars {b:Ee} {n:Int} {nb:Nat} {os:Nat→Option AO} {bd:Nat} (hb:os nb=some (.cells (cB b))) (hl:b.vs.length < 1000000) :
    Bg Tryz.prog bd (.fn (.func 103) [] [.ptr nb 0]) [i64 n] os fun res os'=>res=bl (inB n 0 ((b.vs.length:Int) - 1))∧os'=os:=by
  refine B2 (v:=[]) (q:=[]) (N:=10) (rs:=[.tmp 3]) Tryz.func103 rfl (by kernel_rfl) rfl rfl (fun hcl hfree=>?_)
  refine Aa fun K1 hK1=>?_
  refine Ac ?_
  simp (disch:=omega) only [amL,sA,sB]
  refine hK1 _ ?_
  refine Aa fun K2 hK2=>?_
  refine Ac ?_
  simp (disch:=omega) only [hb,amL,amT,sA,sF,↓reduceIte,reduceCtorEq]
  repeat' first | (refine Aw (by kernel_rfl) rfl (J5 _ _ _) (by first | exact .inl rfl | exact .inr (.inl rfl)) ?_ ; simp (disch:=omega) only [amL,sA,↓reduceIte])
  refine hK2 _ ?_
  refine Ah ?_
  try simp (disch:=omega) only [amL]
  refine A3 (res:=bl _) os (by simp (disch:=omega) only [amL,↓reduceIte]; try rfl) (Sub.refl _) hcl (AV.lives_p _ _) ⟨rfl,rfl⟩
theorem Am3 {n:Int} {s:Stp}:F7 n s=(inB s.kind 0 2&&(inB s.frm 0 (n - 1)&&(inB s.to 0 (n - 1)&&((decide (s.frm=s.to) == !decide (s.kind=0))&&Hx s.g 60)))):=rfl
theorem Ayv (b:Ee) (s:Stp) (hl:b.vs.length < 1000000):Bt Tryz.prog 65 [avB b,avS s] (bl (F7 b.vs.length s)):=by
  refine Bn (v:=[]) (q:=[]) (N:=38) (rs:=[.tmp 4]) Tryz.func65 rfl rfl rfl rfl rfl ?_
  obtain ⟨e,he⟩:∃ e:Bool,(decide (s.frm=s.to) == decide (s.kind≠0))=e:=⟨_,rfl⟩
  refine Aa fun K1 hK1=>?_
  refine Ac ?_
  simp (disch:=omega) only [amL,sA,sB,sF,↓reduceIte,reduceCtorEq]
  refine hK1 _ ?_
  refine Aa fun K2 hK2=>?_
  refine Ac ?_
  simp (disch:=omega) only [amL,sA,sF,↓reduceIte]
  refine hK2 _ ?_
  refine Aa fun K3 hK3=>?_
  refine Ac ?_
  simp (disch:=omega) only [amL,amT,sA,sF,↓reduceIte,reduceCtorEq]
  repeat' first | (refine E0 (fun h=>?_) (fun h=>?_) <;> simp (disch:=omega) only [h,he,amL,amT,sA,sB,sC,sD,sE,sF,sG,sH,sI,sJ,sK,sL,sM,sN,sO,↓reduceIte,reduceCtorEq]) | (refine Cz (fun h=>?_) (fun h=>?_) <;> simp (disch:=omega) only [h,he,amL,amT,sA,sB,sF,↓reduceIte,reduceCtorEq]) | (refine Aw (by kernel_rfl) rfl (J5 _ _ _) (by first | exact .inl rfl | exact .inr (.inl rfl)) ?_ ; simp (disch:=omega) only [amL,sA,↓reduceIte]) | (refine Aw (by kernel_rfl) rfl (Acy ⟨_,_⟩ _ (by omega)) (by first | exact .inl rfl | exact .inr (.inl rfl)) ?_ ; simp (disch:=omega) only [amL,sA,sF,↓reduceIte]) | (refine Cb (bd:=38) (by decide) (Ars (b:=b) rfl hl) (Lx rfl) (by decide) rfl ?_ ; simp (disch:=omega) only [amL,sA,sF,↓reduceIte])
  all_goals
   skip
   refine hK3 _ ?_
   refine Ah ?_
   try simp (disch:=omega) only [amL,↓reduceIte]
   all_goals simp_all [Am3]
theorem Aqy {os:Nat→Option AO} {n m:Nat} {x y:Option AO} (hm:os m=none) (hne:n≠m):Sub (upd os n x) (upd (upd os m y) n x):=fun k=>by
  by_cases e:k=n
  · subst e; right; rw [Bb,Bb]
  · rw [Ad e,Ad e]
    by_cases e2:k=m
    · subst e2; left; exact hm
    · right; rw [Ad e2]
theorem Sb {os:Nat→Option AO} {n:Nat} {x:Option AO} (h:os n=x):upd os n x=os:=by
  funext k; by_cases e:k=n
  · subst e; rw [Bb,h]
  · rw [Ad e]
theorem P2 {v:List Liq} {i:Nat} {x:AV} (h:(cW v)[i]?=some x):x.isP=true:=by
  unfold cW at h
  rw [List.getElem?_map,Option.map_eq_some_iff] at h
  obtain ⟨n,_,rfl⟩:=h
  rfl
theorem Ql {v w:List Liq} {tl:List AV} {nv:Nat} {os:Nat→Option AO} (hcl:(Hp os).closed) (ov:os nv=some (.cells (cW v++tl))):(Hp (upd os nv (some (.cells (cW w++tl))))).closed:=by
  refine Cq hcl (AO.lives_cells.2 fun i x hx=>?_)
  have hm:∀ m,(os m).isSome=true→(upd os nv (some (.cells (cW w++tl))) m).isSome=true:=fun m hm=>by
    by_cases e:m=nv
    · subst e; rw [Bb]; rfl
    · rw [Ad e]; exact hm
  by_cases h:i < (cW w).length
  · rw [List.getElem?_append_left h] at hx; exact A5 _ (P2 hx)
  · rw [List.getElem?_append_right (by omega)] at hx
    have h2:=AO.lives_cells.1 (hcl.2 nv _ ov) ((cW v).length+(i - (cW w).length)) x (by rw [List.getElem?_append_right (by omega)]; rw [← hx]; congr 1; omega)
    exact AV.lives_mono hm h2
theorem Lh {g e:Int} (h1:0≤g) (h2:g≤1000000) (h3:0≤e) (h4:e≤1000000000):-9223372036854775808≤(2 * e+g) / (2 * g)∧(2 * e+g) / (2 * g) < 9223372036854775808:=by
  have e1:0≤(2 * e+g) / (2 * g):=Int.ediv_nonneg (by omega) (by omega)
  have e2:=Int.ediv_le_self (2 * g) (show 0≤2 * e+g by omega)
  omega
theorem Afw {n e g:Int} (h1:0≤n) (h2:n≤1000000) (h3:0≤e) (h4:e≤1000000000) (_:0 < g):(0≤n * e∧n * e≤1000000000000000)∧True:=by
  refine ⟨⟨Int.mul_nonneg h1 h3,?_⟩,trivial⟩
  have:=Int.mul_le_mul h2 h4 h3 (by omega)
  omega
theorem Zb (l:Liq) (h:Rh l):Bt Tryz.prog 62 [avL l] (i64 (Qd l)):=by
  obtain ⟨⟨h1,h2⟩,h3,h4⟩:=h
  refine Bn (v:=[]) (q:=[]) (N:=16) (rs:=[.tmp 2]) Tryz.func62 rfl rfl rfl rfl rfl ?_
  refine Aa fun K1 hK1=>?_
  refine Ac ?_
  simp (disch:=omega) only [amL,sA,↓reduceIte]
  refine hK1 _ ?_
  refine Aa fun K2 hK2=>?_
  refine Aa fun K3 hK3=>?_
  refine Ac ?_
  simp (disch:=omega) only [amL,amT,sA,sF,↓reduceIte,reduceCtorEq]
  refine hK3 _ ?_
  refine Aj rfl (fun h=>?_) (fun h=>?_)
  ·first
   | exact Bool.noConfusion h
   |skip
    try simp only [decide_eq_true_eq] at h
    refine Aa fun K4 hK4=>?_
    refine Ac ?_
    simp (disch:=omega) only [amL,sA]
    refine hK4 _ ?_
    refine Ah ?_
    try simp (disch:=omega) only [amL,↓reduceIte]
    first | (unfold Qd; rw [if_pos h]; done) | (unfold Qd; rw [if_neg h,Fc (Lh h1 h2 h3 h4).1 (Lh h1 h2 h3 h4).2])
  ·first
   | exact Bool.noConfusion h
   |skip
    try simp only [decide_eq_false_iff_not] at h
    refine Ak ?_
    refine hK2 _ ?_
    refine Aa fun K5 hK5=>?_
    refine Ac ?_
    simp (disch:=omega) only [amL,amT,sA,sF,↓reduceIte,reduceCtorEq]
    refine hK5 _ ?_
    refine Ah ?_
    try simp (disch:=omega) only [amL,↓reduceIte]
    first | (unfold Qd; rw [if_pos h]; done) | (unfold Qd; rw [if_neg h,Fc (Lh h1 h2 h3 h4).1 (Lh h1 h2 h3 h4).2])
theorem Asr {v:List Liq} {tl:List AV} {s:Stp} {n:Int} {nv:Nat} {os:Nat→Option AO} {bd:Nat} (hw:G5 v) (hs:0≤s.to∧s.to.toNat < v.length∧s.to < 4) (hn:0≤n∧n≤1000000) (ov:os nv=some (.cells (cW v++tl))) :
    Bg Tryz.prog bd (.fn (.func 120) [] []) [.ptr nv 0,avS s,i64 n] os fun res os'=>res=bl (P1 v s.to.toNat n).2∧os'=upd os nv (some (.cells (cW (P1 v s.to.toNat n).1++tl))):=by
  refine B2 (v:=[]) (q:=[]) (N:=19) (rs:=[.tmp 6]) Tryz.func120 rfl (by kernel_rfl) rfl rfl (fun hcl hfree=>?_)
  have hfr0:∀ k,os (bd+k)=none:=fun k=>hfree _ (by omega)
  have hlt:=Ao hfree ov
  obtain ⟨⟨h1,h2⟩,h3,h4⟩:=hw s.to.toNat
  refine Aa fun K1 hK1=>?_
  refine Ac ?_
  simp (disch:=omega) only [hfr0,amL,sA,sB,↓reduceIte,reduceCtorEq]
  refine hK1 _ ?_
  refine Aa fun K2 hK2=>?_
  refine Ce (by kernel_rfl) (by kernel_rfl) ?_
  simp (disch:=omega) only [ov,Ad,tkG,Z3,Gx,amL,amT,sA,sF,sH,↓reduceIte,reduceCtorEq]
  refine hK2 _ ?_
  refine Aa fun K3 hK3=>?_
  refine Ac ?_
  simp (disch:=omega) only [amL,sA]
  refine hK3 _ ?_
  refine Ah ?_
  try simp (disch:=omega) only [amL]
  refine A3 (res:=bl _) (upd os nv (some (.cells (cW (P1 v s.to.toNat n).1++tl)))) (by simp (disch:=omega) only [amL,↓reduceIte]; try rfl) (Aqy (hfr0 _) (by omega)) (Ql hcl ov) (AV.lives_p _ _) ⟨rfl,rfl⟩
theorem Axu {v:List Liq} {tl:List AV} {s:Stp} {n:Int} {nv:Nat} {os:Nat→Option AO} {bd:Nat} (hw:G5 v) (hs:0≤s.frm∧s.frm.toNat < v.length∧s.frm < 4) (hn:0≤n∧n≤1000000) (ov:os nv=some (.cells (cW v++tl))) :
    Bg Tryz.prog bd (.fn (.func 121) [] []) [.ptr nv 0,avS s,i64 n] os fun res os'=>res=bl (X7 v s.frm.toNat n).2∧os'=upd os nv (some (.cells (cW (X7 v s.frm.toNat n).1++tl))):=by
  refine B2 (v:=[]) (q:=[]) (N:=39) (rs:=[.tmp 6]) Tryz.func121 rfl (by kernel_rfl) rfl rfl (fun hcl hfree=>?_)
  have hfr0:∀ k,os (bd+k)=none:=fun k=>hfree _ (by omega)
  have hlt:=Ao hfree ov
  obtain ⟨⟨h1,h2⟩,h3,h4⟩:=hw s.frm.toNat
  refine Aa fun K1 hK1=>?_
  refine Ac ?_
  simp (disch:=(first | omega | (simp only [List.length_set]; omega))) only [hfr0,amL,sA,sB,↓reduceIte,reduceCtorEq]
  refine hK1 _ ?_
  refine Aa fun K2 hK2=>?_
  refine Ce (by kernel_rfl) (by kernel_rfl) ?_
  simp (disch:=(first | omega | (simp only [List.length_set]; omega))) only [ov,Ad,Dm,Z3,Gx,amL,amT,sA,sF,sH,↓reduceIte,reduceCtorEq]
  refine hK2 _ ?_
  refine Aa fun K3 hK3=>?_
  refine Ce (by kernel_rfl) (by kernel_rfl) ?_
  simp (disch:=(first | omega | (simp only [List.length_set]; omega))) only [hfr0,Ad,Dm,Gx,H2,amL,amT,sA,sB,sE,sF,sH,↓reduceIte,reduceCtorEq]
  refine hK3 _ ?_
  refine Aa fun K4 hK4=>?_
  refine Ac ?_
  simp (disch:=(first | omega | (simp only [List.length_set]; omega))) only [amL,amT,sA,↓reduceIte,reduceCtorEq]
  repeat' first | (refine E0 (fun h=>?_) (fun h=>?_) <;> simp (disch:=(first | omega | (simp only [List.length_set]; omega))) only [h,amL,amT,sA,sF,↓reduceIte,reduceCtorEq]) | (refine Cz (fun h=>?_) (fun h=>?_) <;> simp (disch:=(first | omega | (simp only [List.length_set]; omega))) only [h,ov,hfr0,Ad,Dm,Jf,Z3,Gx,H2,amL,amT,sA,sB,sC,sD,sE,sF,sG,sH,sI,sJ,sK,sL,sM,sN,sO,↓reduceIte,reduceCtorEq])
  all_goals
   skip
   refine hK4 _ ?_
   refine Ah ?_
   try simp (disch:=(first | omega | (simp only [List.length_set]; omega))) only [amL]
   refine A3 (res:=bl _) (upd os nv (some (.cells (cW (v.set s.frm.toNat ⟨_,(v.getD s.frm.toNat default).e⟩)++tl)))) (by simp (disch:=(first | omega | (simp only [List.length_set]; omega))) only [amL,↓reduceIte]; try rfl) (by first | ((repeat' first | exact Sub.refl _ | refine Sub.skip (by first | exact hfr0 _ | (simp (disch:=omega) only [Ad]; exact hfr0 _)) ?_ | refine Sub.both ?_); done) | fail) (Ql hcl ov) (AV.lives_p _ _) ⟨?_,?_⟩
   all_goals (unfold X7; simp_all)
theorem Ayz {v:List Liq} {tl:List AV} {s:Stp} {n:Int} {nv:Nat} {os:Nat→Option AO} {bd:Nat} (hw:G5 v) (hs:0≤s.frm∧s.frm.toNat < v.length∧s.frm < 4) (ht:0≤s.to∧s.to.toNat < v.length∧s.to < 4) (hn:0≤n∧n≤1000000) (ov:os nv=some (.cells (cW v++tl))) :
    Bg Tryz.prog bd (.fn (.func 119) [] []) [.ptr nv 0,avS s,i64 n] os fun res os'=>res=bl (Ff v s.frm.toNat s.to.toNat n).2∧os'=upd os nv (some (.cells (cW (Ff v s.frm.toNat s.to.toNat n).1++tl))):=by
  refine B2 (v:=[]) (q:=[]) (N:=69) (rs:=[.tmp 6]) Tryz.func119 rfl (by kernel_rfl) rfl rfl (fun hcl hfree=>?_)
  have hfr0:∀ k,os (bd+k)=none:=fun k=>hfree _ (by omega)
  have hlt:=Ao hfree ov
  obtain ⟨⟨h1,h2⟩,h3,h4⟩:=hw s.frm.toNat
  obtain ⟨⟨k1,k2⟩,k3,k4⟩:=hw s.to.toNat
  refine Aa fun K1 hK1=>?_
  refine Ac ?_
  simp (disch:=(first | omega | (simp only [List.length_set]; omega))) only [hfr0,amL,sA,sB,↓reduceIte,reduceCtorEq]
  refine hK1 _ ?_
  refine Aa fun K2 hK2=>?_
  refine Ce (by kernel_rfl) (by kernel_rfl) ?_
  simp (disch:=(first | omega | (simp only [List.length_set]; omega))) only [amL,amT,sA,sF,sH,↓reduceIte,reduceCtorEq]
  refine hK2 _ ?_
  refine Aa fun K3 hK3=>?_
  refine Aa fun K4 hK4=>?_
  refine Ac ?_
  simp (disch:=(first | omega | (simp only [List.length_set]; omega))) only [ov,Ad,Dm,amL,amT,sA,sF,↓reduceIte,reduceCtorEq]
  refine hK4 _ ?_
  refine Aj rfl (fun h=>?_) (fun h=>?_)
  ·first
   | exact Bool.noConfusion h
   |skip
    try simp only [decide_eq_true_eq] at h
    refine Aa fun K5 hK5=>?_
    refine Ac ?_
    simp (disch:=(first | omega | (simp only [List.length_set]; omega))) only [amL,sA]
    refine hK5 _ ?_
    refine Ah ?_
    try simp (disch:=(first | omega | (simp only [List.length_set]; omega))) only [amL]
    first | (refine A3 (res:=bl _) os (by simp (disch:=(first | omega | (simp only [List.length_set]; omega))) only [amL,↓reduceIte]; try rfl) (by first | ((repeat' first | exact Sub.refl _ | refine Sub.skip (by first | exact hfr0 _ | (simp (disch:=omega) only [Ad]; exact hfr0 _)) ?_ | refine Sub.both ?_); done) | fail) hcl (AV.lives_p _ _) ⟨?_,?_⟩ ; all_goals first | (rw [Ff,if_pos h]; done) | (rw [Ff,if_pos h,Sb ov]; done) | (rw [Ff,if_neg (by assumption),if_neg h]; done) | (rw [Ff,if_neg (by assumption),if_neg h,Sb ov]; done)) | (refine A3 (res:=bl _) (upd os nv (some (.cells (cW (L5 v s.frm.toNat s.to.toNat n)++tl)))) (by simp (disch:=(first | omega | (simp only [List.length_set]; omega))) only [ov,hfr0,Ad,Dm,Jf,Z3,Akr,Gx,H2,List.set_set,Bw,amL,amT,sA,sB,sC,sD,sE,sF,sG,sH,sI,sJ,sK,sL,sM,sN,sO,↓reduceIte,reduceCtorEq]; try rfl) (by first | ((repeat' first | exact Sub.refl _ | refine Sub.skip (by first | exact hfr0 _ | (simp (disch:=omega) only [Ad]; exact hfr0 _)) ?_ | refine Sub.both ?_); done) | fail) (Ql hcl ov) (AV.lives_p _ _) ⟨?_,?_⟩ ; all_goals (rw [Ff,if_neg (by assumption),if_pos h])) | trace_state
  ·first
   | exact Bool.noConfusion h
   |skip
    try simp only [decide_eq_false_iff_not] at h
    refine Ak ?_
    refine hK3 _ ?_
    refine Aa fun K6 hK6=>?_
    refine Aa fun K7 hK7=>?_
    refine Ac ?_
    simp (disch:=(first | omega | (simp only [List.length_set]; omega))) only [amL,amT,sA,sF,↓reduceIte,reduceCtorEq]
    refine hK7 _ ?_
    refine Aj rfl (fun h=>?_) (fun h=>?_)
    ·first
     | exact Bool.noConfusion h
     |skip
      try simp only [decide_eq_true_eq] at h
      refine Aa fun K8 hK8=>?_
      refine Ce (by kernel_rfl) (by kernel_rfl) ?_
      have hg:0 < (v.getD s.frm.toNat default).g:=by omega
      have hb:=Afw (n:=n) hn.1 hn.2 h3 h4 hg
      have hm:IntKind.i64.wrap (n * (v.getD s.frm.toNat default).e)=n * (v.getD s.frm.toNat default).e:=Fc (by omega) (by omega)
      have htd:(n * (v.getD s.frm.toNat default).e).tdiv (v.getD s.frm.toNat default).g=G6 v s.frm.toNat n:=Int.tdiv_eq_ediv_of_nonneg hb.1.1
      have hx:=Vm (n:=n) hn.1 (show n≤(v.getD s.frm.toNat default).g by omega) h3 hg
      have hx1:0≤G6 v s.frm.toNat n:=hx.1
      have hx2:G6 v s.frm.toNat n≤(v.getD s.frm.toNat default).e:=hx.2
      obtain ⟨⟨q1,q2⟩,q3,q4⟩:=Air (k:=s.frm.toNat) (a:=⟨(v.getD s.frm.toNat default).g - n,(v.getD s.frm.toNat default).e - G6 v s.frm.toNat n⟩) hw ⟨⟨show 0≤(v.getD s.frm.toNat default).g - n by omega,show (v.getD s.frm.toNat default).g - n≤1000000 by omega⟩,show 0≤(v.getD s.frm.toNat default).e - G6 v s.frm.toNat n by omega,show (v.getD s.frm.toNat default).e - G6 v s.frm.toNat n≤1000000000 by omega⟩ s.to.toNat
      simp (disch:=(first | omega | (simp only [List.length_set]; omega))) only [hm,htd,ov,Ad,Dm,Jf,amL,amT,sA,sF,↓reduceIte,reduceCtorEq]
      refine hK8 _ ?_
      refine Aa fun K9 hK9=>?_
      refine Ce (by kernel_rfl) (by kernel_rfl) ?_
      simp (disch:=(first | omega | (simp only [List.length_set]; omega))) only [ov,Ad,Dm,Jf,Z3,Akr,Gx,H2,List.set_set,amL,amT,sA,sB,sE,sF,↓reduceIte,reduceCtorEq]
      refine hK9 _ ?_
      refine Ce (by kernel_rfl) (by kernel_rfl) ?_
      simp (disch:=(first | omega | (simp only [List.length_set]; omega))) only [Dm,Jf,Z3,Akr,Gx,H2,List.set_set,Bw,amL,amT,sA,sB,sE,sF,↓reduceIte,reduceCtorEq]
      refine hK6 _ ?_
      refine Aa fun K10 hK10=>?_
      refine Ac ?_
      simp (disch:=(first | omega | (simp only [List.length_set]; omega))) only [amL,sA]
      refine hK10 _ ?_
      refine Ah ?_
      try simp (disch:=(first | omega | (simp only [List.length_set]; omega))) only [amL]
      first | (refine A3 (res:=bl _) os (by simp (disch:=(first | omega | (simp only [List.length_set]; omega))) only [amL,↓reduceIte]; try rfl) (by first | ((repeat' first | exact Sub.refl _ | refine Sub.skip (by first | exact hfr0 _ | (simp (disch:=omega) only [Ad]; exact hfr0 _)) ?_ | refine Sub.both ?_); done) | fail) hcl (AV.lives_p _ _) ⟨?_,?_⟩ ; all_goals first | (rw [Ff,if_pos h]; done) | (rw [Ff,if_pos h,Sb ov]; done) | (rw [Ff,if_neg (by assumption),if_neg h]; done) | (rw [Ff,if_neg (by assumption),if_neg h,Sb ov]; done)) | (refine A3 (res:=bl _) (upd os nv (some (.cells (cW (L5 v s.frm.toNat s.to.toNat n)++tl)))) (by simp (disch:=(first | omega | (simp only [List.length_set]; omega))) only [amL,↓reduceIte]; try rfl) (by first | ((repeat' first | exact Sub.refl _ | refine Sub.skip (by first | exact hfr0 _ | (simp (disch:=omega) only [Ad]; exact hfr0 _)) ?_ | refine Sub.both ?_); done) | fail) (Ql hcl ov) (AV.lives_p _ _) ⟨?_,?_⟩ ; all_goals (rw [Ff,if_neg (by assumption),if_pos h])) | trace_state
    ·first
     | exact Bool.noConfusion h
     |skip
      try simp only [decide_eq_false_iff_not] at h
      refine Ak ?_
      refine hK6 _ ?_
      refine Aa fun K11 hK11=>?_
      refine Ac ?_
      simp (disch:=(first | omega | (simp only [List.length_set]; omega))) only [amL,sA]
      refine hK11 _ ?_
      refine Ah ?_
      try simp (disch:=(first | omega | (simp only [List.length_set]; omega))) only [amL]
      first | (refine A3 (res:=bl _) os (by simp (disch:=(first | omega | (simp only [List.length_set]; omega))) only [amL,↓reduceIte]; try rfl) (by first | ((repeat' first | exact Sub.refl _ | refine Sub.skip (by first | exact hfr0 _ | (simp (disch:=omega) only [Ad]; exact hfr0 _)) ?_ | refine Sub.both ?_); done) | fail) hcl (AV.lives_p _ _) ⟨?_,?_⟩ ; all_goals first | (rw [Ff,if_pos h]; done) | (rw [Ff,if_pos h,Sb ov]; done) | (rw [Ff,if_neg (by assumption),if_neg h]; done) | (rw [Ff,if_neg (by assumption),if_neg h,Sb ov]; done)) | (refine A3 (res:=bl _) (upd os nv (some (.cells (cW (L5 v s.frm.toNat s.to.toNat n)++tl)))) (by simp (disch:=(first | omega | (simp only [List.length_set]; omega))) only [ov,hfr0,Ad,Dm,Jf,Z3,Akr,Gx,H2,List.set_set,Bw,amL,amT,sA,sB,sC,sD,sE,sF,sG,sH,sI,sJ,sK,sL,sM,sN,sO,↓reduceIte,reduceCtorEq]; try rfl) (by first | ((repeat' first | exact Sub.refl _ | refine Sub.skip (by first | exact hfr0 _ | (simp (disch:=omega) only [Ad]; exact hfr0 _)) ?_ | refine Sub.both ?_); done) | fail) (Ql hcl ov) (AV.lives_p _ _) ⟨?_,?_⟩ ; all_goals (rw [Ff,if_neg (by assumption),if_pos h])) | trace_state
theorem Ay7:La Tryz.prog 194 14:=Alp (by kernel_rfl)
def Ao2:Value:=.agg #[.int .i64 0,.int .i64 0,.int .i64 0,.int .i64 0,.int .i64 0,.int .i64 0,.int .i64 0,.int .i64 0,.bool false]
theorem Av9:∀ w,(zeroValue 196).run Tryz.prog w=.ok Ao2 w:=fun w=>by
  have h:(Tryz.prog.info? 196).map (fun i=>i.zero)=some (some Ao2):=by kernel_rfl
  cases hi:Tryz.prog.info? 196 with
  | none=>rw [hi] at h; cases h
  | some i=>
    rw [hi] at h
    have hz:i.zero=some Ao2:=by simpa using h
    simp [zeroValue,typeInfo,hi,hz]
theorem Uw:Bc Ao2=.agg [i64 0,i64 0,i64 0,i64 0,i64 0,i64 0,i64 0,i64 0,bl false]:=rfl
abbrev Ahx:List AV:=[.fn (.func 119) [] [],.fn (.func 120) [] [],.fn (.func 121) [] []]
abbrev Aja (k:Int):AV:=.fn (.func (if k=0 then 119 else if k=1 then 120 else 121)) [] []
theorem Aoy:Bt Tryz.prog 86 [] (.agg Ahx):=by
  refine Bn (v:=[]) (q:=[]) (N:=5) (rs:=[.cell 0 158]) Tryz.func86 rfl rfl rfl rfl rfl ?_
  refine Aa fun K1 hK1=>?_
  refine Ac ?_
  simp (disch:=omega) only [amL,amT,sA,sB,↓reduceIte]
  refine hK1 _ ?_
  refine Aa fun K2 hK2=>?_
  refine Ac ?_
  simp (disch:=omega) only [amL,amT,sA,sB,sE,sF,↓reduceIte,reduceCtorEq]
  refine hK2 _ ?_
  refine Ah ?_
  try simp (disch:=omega) only [Ank,amL,amT,sB,↓reduceIte,reduceCtorEq]
  skip
theorem X8 {esz:Nat→Nat} {ea:Nat→Option Bool} {k:Int} (hz:esz 157=1) (he:ea 157=some true) (h0:0≤k) (h3:k≤2):Afo esz ea (.agg Ahx) (.arr 3 157) (i64 k)=some (.pure (.agg [Aja k])):=by
  have hk4:k=0∨k=1∨k=2:=by omega
  simp only [Afo,he,hz]
  rcases hk4 with rfl | rfl | rfl <;> rfl
theorem Bc3 {v:List Liq} {tl:List AV} {s:Stp} {n:Int} {nv:Nat} {os:Nat→Option AO} {bd:Nat} (_:0≤s.kind∧s.kind≤2) (hw:G5 v) (hs:0≤s.frm∧s.frm.toNat < v.length∧s.frm < 4) (ht:0≤s.to∧s.to.toNat < v.length∧s.to < 4) (hn:0≤n∧n≤1000000) (ov:os nv=some (.cells (cW v++tl))) :
    Bg Tryz.prog bd (Aja s.kind) [.ptr nv 0,avS s,i64 n] os fun res os'=>res=bl (G3 v s n).2∧os'=upd os nv (some (.cells (cW (G3 v s n).1++tl))):=by
  unfold Aja G3
  split
  · exact Ayz hw hs ht hn ov
  · split
    · exact Asr hw ht hn ov
    · exact Axu hw hs hn ov
structure Wk (vs:List Ves) (ss:List Stp) (nw m:Nat) (os:Nat→Option AO):Prop where
  ow:os nw=some (.cells [.p (slV vs),.p (slS ss),.mp m])
  om:os m=some (.obj (Gb 14 (Sl vs)))
theorem D1 (v:List Liq) (b:Bool):(AV.tup [avW v,bl b]).isP=true:=by
  have h:AV.isP.isPL (cW v)=true:=(H4 _).2 fun i x hx=>P2 hx
  simp only [AV.isP,AV.isP.isPL,h,Bool.and_self]
theorem Gk {P:Program} {s:St} {i j n off:Nat} {ty:TypeId} {g:Bool} {cs:List AV} {x:AV} (h1:s.t i=.ptr n off) (h2:(Ab P ty).agg=some g) (h3:s.o n=some (.cells cs)) (h4:Ai g (Ab P ty).sz (cs.drop off)=some x):(Cv P s [.cell i ty,.tmp j]).map Df=some (.tup [x,s.t j]):=by
  simp only [Cv,F3,h1,h2,h3,h4,Option.map_some]; rfl
theorem Bdx {vs:List Ves} {ss:List Stp} {v:List Liq} {s:Stp} {n:Int} {nw m:Nat} {os:Nat→Option AO} {bd:Nat} (hW:Wk vs ss nw m os) (hv4:v.length=4) (hw:G5 v) (hvs:vs.length≤4) (hk:0≤s.kind∧s.kind≤2) (hs:0≤s.frm∧s.frm < vs.length) (ht:0≤s.to∧s.to < vs.length) (hn:0≤n∧n≤1000000) (hkd:(kD s n v).all inR=true) :
    Bg Tryz.prog bd (.fn (.func 88) [] []) [.ptr nw 0,avW v,avS s,i64 n] os fun res os'=>res=.tup [avW (doS vs v s n).1,bl (doS vs v s n).2]∧os'=os:=by
  refine B2 (v:=[]) (q:=[]) (N:=69) (rs:=[.cell 8 120,.tmp 9]) Tryz.func88 rfl (by kernel_rfl) rfl rfl (fun hcl hfree=>?_)
  have hfr0:∀ k,os (bd+k)=none:=fun k=>hfree _ (by omega)
  obtain ⟨ow,om⟩:=hW
  have hlw:=Ao hfree ow
  have hlm:=Ao hfree om
  have l4:(G3 v s n).1.length=4:=by rw [Aay,hv4]
  have ld:(doS vs v s n).1.length=4:=by rw [Z0,hv4]
  have hmc:Bc (Sl vs (kD s n v))=.agg (cW (doS vs v s n).1++[bl (doS vs v s n).2]):=by unfold Sl; rw [Ay5,Akd]
  have hix:Afo (fun e=>(Ab Tryz.prog e).sz) (fun e=>(Ab Tryz.prog e).agg) (.agg Ahx) (.arr 3 157) (i64 s.kind)=some (.pure (.agg [Aja s.kind])):=X8 (by simp only [amT]) (by simp only [amT]; rfl) hk.1 hk.2
  refine Aa fun K1 hK1=>?_
  refine Ac ?_
  simp (disch:=(first | assumption | omega | (simp only [List.length_set]; omega))) only [hfr0,Ad,amL,amT,sA,sB,sF,↓reduceIte,reduceCtorEq]
  refine hK1 _ ?_
  refine Aa fun K2 hK2=>?_
  refine Ac ?_
  simp (disch:=(first | assumption | omega | (simp only [List.length_set]; omega))) only [hfr0,Ad,Af9,Au8,Bq,Bw,amL,amT,sA,sB,sE,sF,↓reduceIte,reduceCtorEq]
  refine hK2 _ ?_
  refine Aa fun K3 hK3=>?_
  refine Vf (by kernel_rfl) (by kernel_rfl) ?_
  simp (disch:=(first | assumption | omega | (simp only [List.length_set]; omega))) only [ow,Ad,Af9,Bq,amL,amT,sA,sB,sF,↓reduceIte,reduceCtorEq]
  refine Af3 rfl (by simp only [amT]) Av9 rfl Vj Ay7 (by simp (disch:=omega) only [Ad]; exact om) Ahq (App hv4) hkd ?_ ?_ <;> simp (disch:=(first | assumption | omega | (simp only [List.length_set]; omega))) only [hfr0,Ad,Ajm,Aue,Uw,hmc,Bw,amL,amT,sA,sB,sF,↓reduceIte]
  all_goals
   skip
   refine hK3 _ ?_
   refine Aa fun K4 hK4=>?_
   refine Aa fun K5 hK5=>?_
   refine Ac ?_
   simp (disch:=(first | assumption | omega | (simp only [List.length_set]; omega))) only [amL,sA,↓reduceIte]
   refine hK5 _ ?_
   refine Aj rfl (fun h=>?_) (fun h=>?_)
   ·first
    | exact Bool.noConfusion h
    |skip
     try simp only [] at h
     refine Aa fun K6 hK6=>?_
     refine Ac ?_
     simp (disch:=(first | assumption | omega | (simp only [List.length_set]; omega))) only [Ad,Af9,Bbs,Bq,Bw,amL,amT,sA,sB,sE,sF,↓reduceIte,reduceCtorEq]
     refine hK6 _ ?_
     refine Aa fun K7 hK7=>?_
     refine Ce (by kernel_rfl) (by kernel_rfl) ?_
     simp (disch:=(first | assumption | omega | (simp only [List.length_set]; omega))) only [amL]
     repeat' first | (refine E0 (fun h=>?_) (fun h=>?_) <;> simp (disch:=(first | assumption | omega | (simp only [List.length_set]; omega))) only [h,ow,om,hfr0,Ad,Af9,Ajm,Au8,Ay8,Bbs,Aue,Aeb,Bck,Alr,Awt,Axw,Zq,Bq,Uw,hmc,Vw,hix,Di,Bw,Dm,Jf,amL,amT,sA,sB,sC,sD,sE,sF,sG,sH,sI,sJ,sK,sL,sM,sN,sO,↓reduceIte,reduceCtorEq]) | (refine Cz (fun h=>?_) (fun h=>?_) <;> simp (disch:=(first | assumption | omega | (simp only [List.length_set]; omega))) only [h,ow,Ad,Ajm,Bck,Di,Bw,Dm,amL,amT,sA,sB,sF,sH,↓reduceIte,reduceCtorEq]) | (refine Aw (by kernel_rfl) rfl (Aoy) (by first | exact .inl rfl | exact .inr (.inl rfl)) ?_ ; simp (disch:=(first | assumption | omega | (simp only [List.length_set]; omega))) only [Ad,Vw,hix,amL,amT,sA,sB,sF,↓reduceIte,reduceCtorEq]) | (refine A1 [(0,.ptr nw 0),(3,i64 n),(5,.ptr (bd+5) 0),(6,.ptr (bd+6) 0),(8,.ptr (bd+8) 0),(10,.ptr (bd+10) 0),(11,.ptr (bd+11) 0)] (by decide) (Bc3 (v:=v) (tl:=[bl false]) (nv:=bd+11) (bd:=bd+69) hk hw ⟨hs.1,by omega,by omega⟩ ⟨ht.1,by omega,by omega⟩ hn (by first | (simp (disch:=(first | assumption | omega | (simp only [List.length_set]; omega))) only [amL]; done) | fail)) (fun q hq=>by simp (disch:=omega) only [Ad]; exact hfree q (by omega)) (Nat.le_add_right _ _) (fun res os2 hR hcl2 hlv2=>?_) ; obtain ⟨rfl,rfl⟩:=hR ; simp (disch:=(first | assumption | omega | (simp only [List.length_set]; omega))) only [ow,Ad,Bw,amL,sA,sF,↓reduceIte,reduceCtorEq])
     all_goals
      skip
      refine hK7 _ ?_
      refine Ce (by kernel_rfl) (by kernel_rfl) ?_
      simp (disch:=(first | assumption | omega | (simp only [List.length_set]; omega))) only [ow,Ad,Af9,Ajm,Awt,Bq,amL,amT,sA,sB,sF,↓reduceIte,reduceCtorEq]
      all_goals (refine Afd (k:=194) (e:=196) (by simp only [amT]) Ay7 (by simp (disch:=omega) only [Ad]; exact om) Ahq (App hv4) hkd Vj (by rw [hmc]; first | (simp_all [doS]; done) | (omega)) ?_ ; simp (disch:=(first | assumption | omega | (simp only [List.length_set]; omega))) only [amL])
      all_goals
       skip
       refine hK4 _ ?_
       refine Aa fun K8 hK8=>?_
       refine Ab4 [.sto [11] 8,.sto [67] 8] (by kernel_rfl) (by kernel_rfl) ?_
       simp (disch:=(first | assumption | omega | (simp only [List.length_set]; omega))) only [Ad,Af9,Ajm,Aeb,Alr,Zq,amL,amT,sA,sB,sE,sF,↓reduceIte,reduceCtorEq]
       refine ⟨by simp [Cf.ok,Rr,T,AV.known,AV.clean],?_⟩
       all_goals
        skip
        refine hK8 _ ?_
        refine Ah ?_
        try simp (disch:=(first | assumption | omega | (simp only [List.length_set]; omega))) only [amL]
        all_goals (refine A3 (res:=.tup [avW (doS vs v s n).1,bl (doS vs v s n).2]) os ?_ (by first | ((repeat' first | exact Sub.refl _ | refine Sub.skip (by first | exact hfr0 _ | (simp (disch:=omega) only [Ad]; exact hfr0 _)) ?_ | refine Sub.both ?_); done) | fail) hcl (A5 _ (D1 _ _)) ⟨rfl,rfl⟩ ; refine (Gk (n:=bd+8) (off:=0) (g:=true) (cs:=cW (doS vs v s n).1) (x:=avW (doS vs v s n).1) (by simp (disch:=(first | assumption | omega | (simp only [List.length_set]; omega))) only [amL,sF,↓reduceIte,reduceCtorEq]) (by simp only [amT]; rfl) (by simp (disch:=(first | assumption | omega | (simp only [List.length_set]; omega))) only [amL]; try rfl) (by simp only [amT,List.drop_zero]; exact Wt ld)).trans ?_ ; simp (disch:=(first | assumption | omega | (simp only [List.length_set]; omega))) only [amL,↓reduceIte] ; all_goals first | rfl | (simp_all [doS]; done) | (omega))
   ·first
    | exact Bool.noConfusion h
    |skip
     try simp only [] at h
     refine Ak ?_
     refine hK4 _ ?_
     refine Aa fun K9 hK9=>?_
     refine Ab4 [.sto [11] 8,.sto [67] 8] (by kernel_rfl) (by kernel_rfl) ?_
     simp (disch:=(first | assumption | omega | (simp only [List.length_set]; omega))) only [Ad,Af9,Ajm,Aeb,Alr,Zq,amL,amT,sA,sB,sE,sF,↓reduceIte,reduceCtorEq]
     refine ⟨by simp [Cf.ok,Rr,T,AV.known,AV.clean],?_⟩
     all_goals
      skip
      refine hK9 _ ?_
      refine Ah ?_
      try simp (disch:=(first | assumption | omega | (simp only [List.length_set]; omega))) only [amL]
      all_goals (refine A3 (res:=.tup [avW (doS vs v s n).1,bl (doS vs v s n).2]) os ?_ (by first | ((repeat' first | exact Sub.refl _ | refine Sub.skip (by first | exact hfr0 _ | (simp (disch:=omega) only [Ad]; exact hfr0 _)) ?_ | refine Sub.both ?_); done) | fail) hcl (A5 _ (D1 _ _)) ⟨rfl,rfl⟩ ; refine (Gk (n:=bd+8) (off:=0) (g:=true) (cs:=cW (doS vs v s n).1) (x:=avW (doS vs v s n).1) (by simp (disch:=(first | assumption | omega | (simp only [List.length_set]; omega))) only [amL,sF,↓reduceIte]) (by simp only [amT]; rfl) (by simp (disch:=(first | assumption | omega | (simp only [List.length_set]; omega))) only [amL]; try rfl) (by simp only [amT,List.drop_zero]; exact Wt ld)).trans ?_ ; simp (disch:=(first | assumption | omega | (simp only [List.length_set]; omega))) only [amL,↓reduceIte] ; all_goals first | rfl | (simp_all [doS]; done) | (omega))
theorem F6 {os:Nat→Option AO} {n:Nat} {cs:List AV} (hcl:(Hp os).closed) (h:∀ x ∈ cs,x.isP=true):(Hp (upd os n (some (.cells cs)))).closed:=
  Cq hcl (AO.lives_cells.2 fun _ x hx=>A5 _ (h x (List.mem_of_getElem? hx)))
theorem D9 {os:Nat→Option AO} {n:Nat} {v:List Liq} (hcl:(Hp os).closed):(Hp (upd os n (some (.cells (cW v))))).closed:=F6 hcl fun x hx=>by
  obtain ⟨i,hi⟩:=List.mem_iff_getElem?.1 hx
  exact P2 hi
theorem Zh {vs:List Ves} {k:Nat} (h:k < vs.length):vs.drop k=vs.getD k default :: vs.drop (k+1):=Ab7 default h
theorem Vy {vs:List Ves} {gs ds:List Int} {k:Nat} {v:List Liq} {R:List Liq × Bool} (h:k < vs.length) (h2:(vs.getD k default).room < gs.getD k 0) (hr:Gh (vs.drop k) gs ds k v=R):R=(v,false):=by
  rw [Zh h] at hr; unfold Gh at hr; rw [if_pos h2] at hr; exact hr.symm
theorem Af1 {vs:List Ves} {gs ds:List Int} {k:Nat} {v:List Liq} {R:List Liq × Bool} (h:k < vs.length) (h2:¬ (vs.getD k default).room < gs.getD k 0) (hr:Gh (vs.drop k) gs ds k v=R):Gh (vs.drop (k+1)) gs ds (k+1) (v.set k ⟨gs.getD k 0,gs.getD k 0 * ds.getD k 0⟩)=R:=by
  rw [Zh h] at hr; unfold Gh at hr; rw [if_neg h2] at hr; exact hr
theorem Ze {vs:List Ves} {gs ds:List Int} {k:Nat} {v:List Liq} {R:List Liq × Bool} (h:vs.length≤k) (hr:Gh (vs.drop k) gs ds k v=R):R=(v,true):=by
  rw [List.drop_of_length_le h] at hr; exact hr.symm
theorem Aqc {a b:Int} (h1:0≤a∧a≤100000) (h2:0≤b∧b≤100000):0≤a * b∧a * b≤10000000000:=by
  have e1:=Int.mul_nonneg h1.1 h2.1
  have e2:=Int.mul_le_mul h1.2 h2.2 h2.1 (by omega)
  omega
theorem Dp {b:Ee} {os:Nat→Option AO} {bd:Nat} :
    Bg Tryz.prog bd (.fn (.func 60) [] []) [avB b] os fun res os'=>res=.ptr (bd+6) 0∧os'=upd (upd os (bd+4) (some (.obj (Gb 14 (Sl b.vs))))) (bd+6) (some (.cells [.p (slV b.vs),.p (slS b.ss),.mp (bd+4)])):=by
  refine B2 (v:=[]) (q:=[]) (N:=7) (rs:=[.tmp 2]) Tryz.func60 rfl (by kernel_rfl) rfl rfl (fun hcl hfree=>?_)
  have hfr0:∀ k,os (bd+k)=none:=fun k=>hfree _ (by omega)
  refine Aa fun K1 hK1=>?_
  refine Ac ?_
  simp (disch:=omega) only [hfr0,amL,sA,↓reduceIte]
  refine hK1 _ ?_
  refine Aa fun K2 hK2=>?_
  refine Ac ?_
  simp (disch:=omega) only [amL,amT,sA,sB,sF,↓reduceIte]
  refine Afm 14 (Sl b.vs) (by decide) (by simp (disch:=omega) only [hfr0,Ad]) ?_
  simp (disch:=omega) only [hfr0,Ad,amL,amT,sA,sB,sE,sF,↓reduceIte]
  all_goals
   skip
   refine hK2 _ ?_
   refine Ah ?_
   try simp (disch:=omega) only [amL]
   refine A3 (res:=.ptr (bd+6) 0) (upd (upd os (bd+4) (some (.obj (Gb 14 (Sl b.vs))))) (bd+6) (some (.cells [.p (slV b.vs),.p (slS b.ss),.mp (bd+4)]))) rfl (by first | ((repeat' first | exact Sub.refl _ | refine Sub.skip (by first | exact hfr0 _ | (simp (disch:=omega) only [Ad]; exact hfr0 _)) ?_ | refine Sub.both ?_); done) | fail) (Cq (Cq hcl (AO.lives_obj _ _)) ?_) ?_ ⟨rfl,rfl⟩
   · rw [Dv]; simp (disch:=omega) only [Ct,Cl,Ts,Sm,Ad,Bb,Option.isSome_some,and_self]
   · rw [C5]; simp only [Bb,Option.isSome_some]
theorem Agg {vs:List Ves} {ss:List Stp} {gs ds:List Int} {nw m:Nat} {os:Nat→Option AO} {bd:Nat} (hW:Wk vs ss nw m os) (hvs:vs.length≤4) (hg1:gs.length=vs.length) (hd1:ds.length=vs.length) (hg:∀ k,0≤gs.getD k 0∧gs.getD k 0≤100000) (hd:∀ k,0≤ds.getD k 0∧ds.getD k 0≤100000) :
    Bg Tryz.prog bd (.fn (.func 101) [] []) [.ptr nw 0,isl gs,isl ds] os fun res os'=>res=.tup [avW (Mu vs gs ds).1,bl (Mu vs gs ds).2]∧os'=os:=by
  refine B2 (v:=[]) (q:=[]) (N:=47) (rs:=[.cell 6 120,.tmp 7]) Tryz.func101 rfl (by kernel_rfl) rfl rfl (fun hcl hfree=>?_)
  have hfr0:∀ k,os (bd+k)=none:=fun k=>hfree _ (by omega)
  obtain ⟨ow,om⟩:=hW
  have hlw:=Ao hfree ow
  refine Aa fun K1 hK1=>?_
  refine Ac ?_
  simp (disch:=(first | assumption | omega | (simp only [List.length_set]; omega))) only [hfr0,amL,amT,sA,sB,↓reduceIte]
  refine hK1 _ ?_
  refine Aa fun K2 hK2=>?_
  refine Aa fun K3 hK3=>?_
  refine Ac ?_
  simp (disch:=(first | assumption | omega | (simp only [List.length_set]; omega))) only [ow,Ad,amL,amT,sA,↓reduceIte,reduceCtorEq]
  refine hK3 _ ?_
  refine Ap ?_
  skip
  refine Be (α:=Nat × List Liq) (fun x=>⟨T [(0,.ptr nw 0),(1,isl gs),(2,isl ds),(6,.ptr (bd+6) 0),(14,.p (slV vs)),(15,i64 vs.length),(16,i64 (x.1:Int))],upd os (bd+6) (some (.cells (cW x.2)))⟩) (fun x=>vs.length - x.1) (fun x=>x.1≤vs.length∧x.2.length=4∧Gh (vs.drop x.1) gs ds x.1 x.2=Mu vs gs ds) (0,v0) ?_ ?_ (fun x hx4 K4 hK4=>?_)
  · exact ⟨by simp,rfl,rfl⟩
  · refine F9 ?_ ?_ ?_ ?_ <;> (try simp (disch:=(first | assumption | omega | (simp only [List.length_set]; omega))) only [ow,Ad,amL,sF,↓reduceIte,reduceCtorEq]); all_goals first | rfl | exact D9 hcl | exact (by first | ((repeat' first | exact Sub.refl _ | refine Sub.skip (by first | exact hfr0 _ | (simp (disch:=omega) only [Ad]; exact hfr0 _)) ?_ | refine Sub.both ?_); done) | fail) | trace_state
  obtain ⟨k,v⟩:=x; dsimp only at hx4 ⊢; obtain ⟨hk,hv4,hr⟩:=hx4; have hgk:=hg k; have hdk:=hd k; have hmu:=Aqc hgk hdk
  refine Aa fun K5 hK5=>?_
  refine Ac ?_
  simp (disch:=(first | assumption | omega | (simp only [List.length_set]; omega))) only [amL,amT,sA,sF,↓reduceIte,reduceCtorEq]
  refine hK5 _ ?_
  refine Aa fun K6 hK6=>?_
  refine Aj rfl (fun h=>?_) (fun h=>?_)
  ·first
   | exact Bool.noConfusion h
   |skip
    try simp only [decide_eq_true_eq] at h
    refine Ak ?_
    refine hK6 _ ?_
    refine Aa fun K7 hK7=>?_
    refine Ap ?_
    refine Aa fun K8 hK8=>?_
    refine Ac ?_
    simp (disch:=(first | assumption | omega | (simp only [List.length_set]; omega))) only [hfr0,Ad,Bw,Di,amL,amT,sA,sB,sF,↓reduceIte,reduceCtorEq]
    refine hK8 _ ?_
    refine Aa fun K9 hK9=>?_
    refine Aa fun K10 hK10=>?_
    refine Ce (by kernel_rfl) (by kernel_rfl) ?_
    simp (disch:=(first | assumption | omega | (simp only [List.length_set]; omega))) only [amL,amT,sA,sF,↓reduceIte,reduceCtorEq]
    refine hK10 _ ?_
    refine Aj rfl (fun h=>?_) (fun h=>?_)
    ·first
     | exact Bool.noConfusion h
     |skip
      try simp only [decide_eq_true_eq] at h
      refine Aa fun K11 hK11=>?_
      refine Ac ?_
      simp (disch:=(first | assumption | omega | (simp only [List.length_set]; omega))) only [Ad,Bq,Az,B7,amL,amT,sA,sF,↓reduceIte,reduceCtorEq]
      refine hK11 _ ?_
      refine Ah ?_
      try simp (disch:=(first | assumption | omega | (simp only [List.length_set]; omega))) only [amL]
      all_goals ((first | (have e:=Vy (by omega) (by assumption) hr) | (have e:=Ze (by omega) hr)) ; rw [e] ; refine A3 (res:=.tup [avW v,bl _]) os ?_ (by first | ((repeat' first | exact Sub.refl _ | refine Sub.skip (by first | exact hfr0 _ | (simp (disch:=omega) only [Ad]; exact hfr0 _)) ?_ | refine Sub.both ?_); done) | fail) hcl (A5 _ (D1 _ _)) ⟨rfl,rfl⟩ ; refine (Gk (n:=bd+6) (off:=0) (g:=true) (cs:=cW v) (x:=avW v) (by simp (disch:=(first | assumption | omega | (simp only [List.length_set]; omega))) only [amL,sF,↓reduceIte,reduceCtorEq]) (by simp only [amT]; rfl) (by simp (disch:=(first | assumption | omega | (simp only [List.length_set]; omega))) only [amL]; try rfl) (by simp only [amT,List.drop_zero]; exact Wt hv4)).trans ?_ ; simp (disch:=(first | assumption | omega | (simp only [List.length_set]; omega))) only [amL,↓reduceIte] ; all_goals first | rfl | (omega))
    ·first
     | exact Bool.noConfusion h
     |skip
      try simp only [decide_eq_false_iff_not] at h
      refine Ak ?_
      refine hK9 _ ?_
      refine Ce (by kernel_rfl) (by kernel_rfl) ?_
      simp (disch:=(first | assumption | omega | (simp only [List.length_set]; omega))) only [Ad,Ba2,Bbv,List.set_set,H2,Az,amL,amT,sA,sB,sE,sF,sH,↓reduceIte,reduceCtorEq]
      refine hK7 _ ?_
      refine Ac ?_
      simp (disch:=(first | assumption | omega | (simp only [List.length_set]; omega))) only [amL,amT,sA,sF,↓reduceIte,reduceCtorEq]
      refine hK4 (k+1,v.set k ⟨gs.getD k 0,gs.getD k 0 * ds.getD k 0⟩) _ ?_ ?_ (F9 ?_ ?_ ?_ ?_)
      all_goals (try simp (disch:=(first | assumption | omega | (simp only [List.length_set]; omega))) only [ow,Ad,amL,sF,↓reduceIte,reduceCtorEq])
      all_goals first | omega | exact ⟨by omega,by simp [hv4],Af1 (by omega) (by omega) hr⟩ | exact (by first | ((repeat' first | exact Sub.refl _ | refine Sub.skip (by first | exact hfr0 _ | (simp (disch:=omega) only [Ad]; exact hfr0 _)) ?_ | refine Sub.both ?_); done) | fail) | exact D9 hcl | trace_state
  ·first
   | exact Bool.noConfusion h
   |skip
    try simp only [decide_eq_false_iff_not] at h
    refine Bo ?_
    refine hK2 _ ?_
    refine Aa fun K12 hK12=>?_
    refine Ac ?_
    simp (disch:=(first | assumption | omega | (simp only [List.length_set]; omega))) only [Bw,Bq,Az,B7,amL,amT,sA,sF,↓reduceIte,reduceCtorEq]
    refine hK12 _ ?_
    refine Ah ?_
    try simp (disch:=(first | assumption | omega | (simp only [List.length_set]; omega))) only [amL]
    all_goals ((first | (have e:=Vy (by omega) (by assumption) hr) | (have e:=Ze (by omega) hr)) ; rw [e] ; refine A3 (res:=.tup [avW v,bl _]) os ?_ (by first | ((repeat' first | exact Sub.refl _ | refine Sub.skip (by first | exact hfr0 _ | (simp (disch:=omega) only [Ad]; exact hfr0 _)) ?_ | refine Sub.both ?_); done) | fail) hcl (A5 _ (D1 _ _)) ⟨rfl,rfl⟩ ; refine (Gk (n:=bd+6) (off:=0) (g:=true) (cs:=cW v) (x:=avW v) (by simp (disch:=(first | assumption | omega | (simp only [List.length_set]; omega))) only [amL,sF,↓reduceIte,reduceCtorEq]) (by simp only [amT]; rfl) (by simp (disch:=(first | assumption | omega | (simp only [List.length_set]; omega))) only [amL]; try rfl) (by simp only [amT,List.drop_zero]; exact Wt hv4)).trans ?_ ; simp (disch:=(first | assumption | omega | (simp only [List.length_set]; omega))) only [amL,↓reduceIte] ; all_goals first | rfl | (omega))
theorem Bcj {b:Ee} {s:Stp} {n:Int} {v:List Liq} (hs:F7 b.vs.length s=true) (hb:b.vs.length≤4) (hn:0≤n∧n≤60) (hv:OkV v):(kD s n v).all inR=true:=by
  obtain ⟨h1,h2,h3,_,h5⟩:=Fy hs
  have h6:=C8 h5
  refine Bay ⟨?_,?_,?_,?_,?_⟩ ?_ hv.small <;> (simp only [inR,Bool.and_eq_true,decide_eq_true_eq]; omega)
theorem Agv {os:Nat→Option AO} {n1 n2 n3:Nat} {t:Tru} {v w:List Liq} (hcl:(Hp os).closed):(Hp (upd (upd (upd os n1 (some (.cells (cT t)))) n2 (some (.cells (cW v)))) n3 (some (.cells (cW w))))).closed:=
  D9 (D9 (F6 hcl fun x hx=>by simp at hx; rcases hx with rfl | rfl | rfl <;> rfl))
theorem Ek {b:Ee} {t:Tru} {nw m:Nat} {os:Nat→Option AO} {bd:Nat} (hW:Wk b.vs b.ss nw m os) (hv:N6 b) (ht:F1 b t=true) :
    Bg Tryz.prog bd (.fn (.func 61) [] []) [.ptr nw 0,avT t] os fun res os'=>res=.tup [avW (Mo b t).1,bl (Mo b t).2]∧os'=os:=by
  refine B2 (v:=[101,88]) (q:=[]) (N:=48) (rs:=[.cell 4 120,.tmp 5]) Tryz.func61 rfl (by kernel_rfl) rfl rfl (fun hcl hfree=>?_)
  have hfr0:∀ k,os (bd+k)=none:=fun k=>hfree _ (by omega)
  have hlw:=Ao hfree hW.ow
  have hlm:=Ao hfree hW.om
  have ow:=hW.ow
  have om:=hW.om
  obtain ⟨s1,s2,s3⟩:=L0 hv ht
  obtain ⟨p1,p2,p3,p4,p5⟩:=Dj ht
  have hb0:=X0 hv ht
  have hnv:=hv.nv
  have hns:=hv.ns
  have bl4:=hb0.len
  refine Aa fun K1 hK1=>?_
  refine Ac ?_
  simp (disch:=(first | assumption | omega | (simp only [List.length_set]; omega))) only [hfr0,Ad,amL,amT,sA,sB,↓reduceIte,reduceCtorEq]
  refine hK1 _ ?_
  refine Aa fun K2 hK2=>?_
  refine Ac ?_
  simp (disch:=(first | assumption | omega | (simp only [List.length_set]; omega))) only [Ad,amL,amT,sA,sF,sG,↓reduceIte,reduceCtorEq]
  repeat' first | (refine Cb (bd:=bd+48) (by decide) (Agg (ss:=b.ss) (m:=m) ⟨by simp (disch:=omega) only [Ad]; exact ow,by simp (disch:=omega) only [Ad]; exact om⟩ hnv p1 p2 (fun k=>by have:=s1 k; omega) (fun k=>by have:=s2 k; omega)) (fun q hq=>by simp (disch:=omega) only [Ad]; exact hfree q (by omega)) (Nat.le_add_right _ _) (D1 _ _) ?_ ; simp (disch:=(first | assumption | omega | (simp only [List.length_set]; omega))) only [hfr0,Ad,Bw,Aeb,Az,amL,amT,sA,sB,sF,↓reduceIte])
  refine hK2 _ ?_
  refine Aa fun K3 hK3=>?_
  refine Aa fun K4 hK4=>?_
  refine Ac ?_
  simp (disch:=(first | assumption | omega | (simp only [List.length_set]; omega))) only [ow,Ad,amL,amT,sA,↓reduceIte,reduceCtorEq]
  refine hK4 _ ?_
  refine Ap ?_
  skip
  refine Be (α:=Nat × (List Liq × Bool)) (fun x=>⟨T [(0,.ptr nw 0),(3,.ptr (bd+3) 0),(4,.ptr (bd+4) 0),(6,.ptr (bd+6) 0),(7,bl x.2.2),(23,.p (slS b.ss)),(24,i64 b.ss.length),(25,i64 (x.1:Int))],upd (upd (upd os (bd+3) (some (.cells (cT t)))) (bd+4) (some (.cells (cW v0)))) (bd+6) (some (.cells (cW x.2.1)))⟩) (fun x=>b.ss.length - x.1) (fun x=>x.1≤b.ss.length∧x.2.1.length=4∧(x.2.2=true→OkV x.2.1)∧J9 b.vs t.m (b.ss.drop x.1) x.1 x.2=Mo b t) (0,Mu b.vs t.g t.d) ?_ ?_ (fun x hx5 K5 hK5=>?_)
  · exact ⟨by simp,bl4,fun _=>hb0,rfl⟩
  · refine F9 ?_ ?_ ?_ ?_ <;> (try simp (disch:=(first | assumption | omega | (simp only [List.length_set]; omega))) only [ow,Ad,amL,sF,↓reduceIte,reduceCtorEq]); all_goals first | rfl | exact (by first | ((repeat' first | exact Sub.refl _ | refine Sub.skip (by first | exact hfr0 _ | (simp (disch:=omega) only [Ad]; exact hfr0 _)) ?_ | refine Sub.both ?_); done) | fail) | exact Agv hcl | (omega)
  obtain ⟨k,v,is⟩:=x; dsimp only at hx5 ⊢; obtain ⟨hk,hr4,ho,hr⟩:=hx5
  refine Aa fun K6 hK6=>?_
  refine Ac ?_
  simp (disch:=(first | assumption | omega | (simp only [List.length_set]; omega))) only [amL,amT,sA,sF,↓reduceIte,reduceCtorEq]
  refine hK6 _ ?_
  refine Aa fun K7 hK7=>?_
  refine Aj rfl (fun h=>?_) (fun h=>?_)
  ·first
   | exact Bool.noConfusion h
   |skip
    try simp only [decide_eq_true_eq] at h
    refine Ak ?_
    refine hK7 _ ?_
    refine Aa fun K8 hK8=>?_
    refine Ap ?_
    refine Aa fun K9 hK9=>?_
    refine Ac ?_
    simp (disch:=(first | assumption | omega | (simp only [List.length_set]; omega))) only [hfr0,Ad,Bw,Xh,amL,amT,sA,sB,sF,↓reduceIte,reduceCtorEq]
    refine hK9 _ ?_
    refine Aa fun K10 hK10=>?_
    refine Aa fun K11 hK11=>?_
    refine Ac ?_
    simp (disch:=(first | assumption | omega | (simp only [List.length_set]; omega))) only [amL,sA,sF,↓reduceIte,reduceCtorEq]
    refine hK11 _ ?_
    refine Aj rfl (fun h=>?_) (fun h=>?_)
    ·first
     | exact Bool.noConfusion h
     |skip
      try simp only [Bool.not_eq_true'] at h
      refine Aa fun K12 hK12=>?_
      refine Ac ?_
      simp (disch:=(first | assumption | omega | (simp only [List.length_set]; omega))) only [Ad,Bq,Az,B7,amL,amT,sA,sB,sC,sF,↓reduceIte,reduceCtorEq]
      refine hK12 _ ?_
      refine Ah ?_
      try simp (disch:=(first | assumption | omega | (simp only [List.length_set]; omega))) only [amL]
      all_goals ((first | (have e:=Ui (by omega) (by assumption) hr) | (have e:=Yy (by omega) hr)) ; rw [e] ; refine A3 (res:=.tup [avW v,bl _]) os ?_ (by first | ((repeat' first | exact Sub.refl _ | refine Sub.skip (by first | exact hfr0 _ | (simp (disch:=omega) only [Ad]; exact hfr0 _)) ?_ | refine Sub.both ?_); done) | fail) hcl (A5 _ (D1 _ _)) ⟨rfl,rfl⟩ ; refine (Gk (n:=bd+4) (off:=0) (g:=true) (cs:=cW v) (x:=avW v) (by simp (disch:=(first | assumption | omega | (simp only [List.length_set]; omega))) only [amL,sF,↓reduceIte,reduceCtorEq]) (by simp only [amT]; rfl) (by simp (disch:=(first | assumption | omega | (simp only [List.length_set]; omega))) only [amL]; try rfl) (by simp only [amT,List.drop_zero]; exact Wt hr4)).trans ?_ ; simp (disch:=(first | assumption | omega | (simp only [List.length_set]; omega))) only [amL,↓reduceIte] ; all_goals first | rfl | (omega))
    ·first
     | exact Bool.noConfusion h
     |skip
      try simp only [Bool.not_eq_false'] at h
      refine Ak ?_
      refine hK10 _ ?_
      refine Vf (by kernel_rfl) (by kernel_rfl) ?_
      have his:is=true:=by assumption
      have hov:=ho his
      have hst:=hv.stp (k:=k) (by omega)
      obtain ⟨q1,q2,q3,_⟩:=Fy hst
      have hmk:=s3 k
      have hd4:(doS b.vs v (b.ss.getD k default) (t.m.getD k 0)).1.length=4:=by rw [Z0]; exact hr4
      simp (disch:=(first | assumption | omega | (simp only [List.length_set]; omega))) only [Ad,Bl,Bq,Az,amL,amT,sA,sB,sF,sG,↓reduceIte,reduceCtorEq]
      repeat' first | (refine Cb (bd:=bd+48) (by decide) (Bdx (ss:=b.ss) (m:=m) (s:=b.ss.getD k default) ⟨by simp (disch:=omega) only [Ad]; exact ow,by simp (disch:=omega) only [Ad]; exact om⟩ hr4 hov.small hnv q1 ⟨q2.1,by omega⟩ ⟨q3.1,by omega⟩ ⟨hmk.1,by omega⟩ (Bcj hst hnv hmk hov)) (fun q hq=>by simp (disch:=omega) only [Ad]; exact hfree q (by omega)) (Nat.le_add_right _ _) (D1 _ _) ?_ ; simp (disch:=(first | assumption | omega | (simp only [List.length_set]; omega))) only [Ad,Az,B7,amL,amT,sA,sF,↓reduceIte,reduceCtorEq])
      refine hK8 _ ?_
      refine Ac ?_
      simp (disch:=(first | assumption | omega | (simp only [List.length_set]; omega))) only [amL,amT,sA,sF,↓reduceIte,reduceCtorEq]
      refine hK5 (k+1,doS b.vs v (b.ss.getD k default) (t.m.getD k 0)) _ ?_ ?_ (F9 ?_ ?_ ?_ ?_)
      all_goals (try simp (disch:=(first | assumption | omega | (simp only [List.length_set]; omega))) only [ow,Ad,amL,sF,↓reduceIte,reduceCtorEq])
      all_goals first | omega | exact ⟨by omega,by rw [Z0]; exact hr4,fun hd=>Am5 hov hnv hv.v hst hmk.1 hd,Afg (by omega) his hr⟩ | exact (by first | ((repeat' first | exact Sub.refl _ | refine Sub.skip (by first | exact hfr0 _ | (simp (disch:=omega) only [Ad]; exact hfr0 _)) ?_ | refine Sub.both ?_); done) | fail) | exact Agv hcl | (omega)
  ·first
   | exact Bool.noConfusion h
   |skip
    try simp only [decide_eq_false_iff_not] at h
    refine Bo ?_
    refine hK3 _ ?_
    refine Aa fun K13 hK13=>?_
    refine Ac ?_
    simp (disch:=(first | assumption | omega | (simp only [List.length_set]; omega))) only [Ad,Bq,Az,B7,amL,amT,sA,sB,sC,sF,↓reduceIte,reduceCtorEq]
    refine hK13 _ ?_
    refine Ah ?_
    try simp (disch:=(first | assumption | omega | (simp only [List.length_set]; omega))) only [amL]
    all_goals ((first | (have e:=Ui (by omega) (by assumption) hr) | (have e:=Yy (by omega) hr)) ; rw [e] ; refine A3 (res:=.tup [avW v,bl _]) os ?_ (by first | ((repeat' first | exact Sub.refl _ | refine Sub.skip (by first | exact hfr0 _ | (simp (disch:=omega) only [Ad]; exact hfr0 _)) ?_ | refine Sub.both ?_); done) | fail) hcl (A5 _ (D1 _ _)) ⟨rfl,rfl⟩ ; refine (Gk (n:=bd+4) (off:=0) (g:=true) (cs:=cW v) (x:=avW v) (by simp (disch:=(first | assumption | omega | (simp only [List.length_set]; omega))) only [amL,sF,↓reduceIte,reduceCtorEq]) (by simp only [amT]; rfl) (by simp (disch:=(first | assumption | omega | (simp only [List.length_set]; omega))) only [amL]; try rfl) (by simp only [amT,List.drop_zero]; exact Wt hr4)).trans ?_ ; simp (disch:=(first | assumption | omega | (simp only [List.length_set]; omega))) only [amL,↓reduceIte] ; all_goals first | rfl | (omega))
theorem Axv (n:Nat) (hn:n≤1000000):H0 Tryz.prog 100 [C3,i64 (n:Int)] 1 []:=by
  refine Ki (v:=[]) (q:=[]) (N:=27) (i:=4) Tryz.func100 rfl rfl rfl rfl ?_
  refine Aa fun K1 hK1=>?_
  refine Ac ?_
  simp (disch:=omega) only [amL,sA,sB]
  refine hK1 _ ?_
  refine Aa fun K2 hK2=>?_
  refine Aa fun K3 hK3=>?_
  refine Ac ?_
  simp (disch:=omega) only [amL,amT,sA,sF,↓reduceIte,reduceCtorEq]
  refine hK3 _ ?_
  refine Aj rfl (fun h=>?_) (fun h=>?_)
  ·first
   | exact Bool.noConfusion h
   |skip
    try simp only [Bool.not_eq_true',decide_eq_true_eq,decide_eq_false_iff_not,Bool.and_eq_true,Bool.not_eq_false',Bool.not_not,decide_not,Bool.not_true,Bool.not_false] at h
    exfalso; omega
  ·first
   | exact Bool.noConfusion h
   |skip
    try simp only [decide_eq_false_iff_not] at h
    refine Ak ?_
    refine hK2 _ ?_
    refine Aa fun K4 hK4=>?_
    refine Aa fun K5 hK5=>?_
    refine C0 ?_
    refine Jy ?_
    simp (disch:=omega) only [amL,sA,sF,↓reduceIte,reduceCtorEq]
    refine Jy ?_
    simp (disch:=omega) only [amL,sA,↓reduceIte,reduceCtorEq]
    refine AL.step (Qy (t:=26) (e:=3) rfl (fun k hk=>by cases hk; decide) (by simp only [amT]) rfl ?_)
    refine Dc ?_
    simp (disch:=omega) only [Int.sub_zero,Int.sub_self,amL,amT,sA,sF,↓reduceIte,reduceCtorEq]
    refine hK5 _ ?_
    refine Aa fun K6 hK6=>?_
    refine Ac ?_
    simp (disch:=omega) only [amL,amT,sA,↓reduceIte]
    refine hK6 _ ?_
    refine Aj rfl (fun h=>?_) (fun h=>?_)
    ·first
     | exact Bool.noConfusion h
     |skip
      try simp only [decide_eq_true_eq] at h
      refine C0 ?_
      refine Jy ?_
      simp (disch:=omega) only [amL,sA,↓reduceIte,reduceCtorEq]
      refine Jy ?_
      simp (disch:=omega) only [amL,sA,↓reduceIte,reduceCtorEq]
      refine AL.step (Qy (t:=26) (e:=3) rfl (fun k hk=>by cases hk; decide) (by simp only [amT]) rfl ?_)
      refine AL.step (Vb (t:=26) (e:=3) rfl (fun k hk=>by cases hk; decide) (by simp only [amT]) (by simp only [amT]; rfl) rfl rfl ?_)
      refine Jy ?_
      simp (disch:=omega) only [amL,sA,sF,↓reduceIte]
      refine AL.step (W9 (t:=26) (t':=3) (e:=3) (k:=.i64) (n:=n) (dk:=22) rfl rfl (by decide) rfl (by simp only [amT]) (by simp only [amT]) (by simp only [amT]; rfl) (by simp only [amT]; rfl) (by simp only [amT]; decide) (by simp only [amT]; rfl) rfl rfl (by omega) hn (by simp only [amT]; omega) ?_)
      refine Jy ?_
      simp (disch:=omega) only [amL,amT,sA,↓reduceIte,reduceCtorEq]
      refine Jy ?_
      simp (disch:=omega) only [amL,amT,sA,↓reduceIte]
      refine AL.step (Ta (t:=26) (e:=3) (n:=22) (len:=n) (dk:=25) rfl rfl (by decide) (by simp only [amT]) (by simp only [amT]; rfl) rfl (by omega) rfl rfl rfl ?_)
      refine Dc ?_
      simp (disch:=omega) only [amL,sA,↓reduceIte]
      refine hK4 _ ?_
      refine Aa fun K7 hK7=>?_
      refine Ac ?_
      simp (disch:=omega) only [amL,sA,↓reduceIte]
      refine hK7 _ ?_
      refine Ah ?_
      try simp (disch:=omega) only [Du,amL,↓reduceIte]
      all_goals rfl
    ·first
     | exact Bool.noConfusion h
     |skip
      try simp only [decide_eq_false_iff_not] at h
      refine Ak ?_
      refine hK4 _ ?_
      refine Aa fun K8 hK8=>?_
      refine Ac ?_
      simp (disch:=omega) only [amL,sA,↓reduceIte,reduceCtorEq]
      refine hK8 _ ?_
      refine Ah ?_
      try simp (disch:=omega) only [Du,amL,↓reduceIte]
      all_goals rfl
abbrev Aj5 (t:List Int):List PV:=[.sl (t.map J8)]
theorem Xw {l:List (List Int)} {k:Nat} (h:k < l.length):(l.map Aj5).getD k []=Aj5 (l.getD k []):=Cp _ _ _ h
theorem Yz {l:List (List Int)} {k:Nat} (h:k < l.length):(l.take (k+1)).flatten=(l.take k).flatten++l.getD k []:=by
  have e:l.take (k+1)=l.take k++[l.getD k []]:=by
    rw [List.take_add_one,List.getElem?_eq_getElem h]; simp [List.getD,h]
  rw [e,List.flatten_append]; simp
theorem Tp {l:List (List Int)} (k:Nat):(l.take k).flatten.length≤l.flatten.length:=by
  have:l.flatten=(l.take k).flatten++(l.drop k).flatten:=by rw [← List.flatten_append,List.take_append_drop]
  rw [this,List.length_append]; omega
theorem Anz (l:List Int):((l.map J8).all fun c=>decide (c.length=1))=true:=by
  rw [List.all_eq_true]; intro c hc; obtain ⟨z,-,rfl⟩:=List.mem_map.1 hc; rfl
theorem Kz {os:Nat→Option AO} {n len k:Nat} {es:List (List PV)} (h:os n=some (.arr k es)) (h1:len=es.length) (h2:(es.all fun e=>e.all PV.isVal)=true):Sn k os (.own n len)=some es:=by
  unfold Sn; simp only [h]; rw [if_pos ⟨trivial,h1,h2⟩]
theorem Aen (l:List Int):((l.map J8).all fun e=>e.all PV.isVal)=true:=by
  rw [List.all_eq_true]; intro c hc; obtain ⟨z,-,rfl⟩:=List.mem_map.1 hc; rfl
theorem An5 (ls:List (List Int)) (hl:ls.length < 1000000) (hf:ls.flatten.length≤1000000):H0 Tryz.prog 57 [.p (.sl (ls.map Aj5))] 1 (ls.flatten.map J8):=by
  refine Ki (v:=[]) (q:=[]) (N:=36) (i:=2) Tryz.func57 rfl rfl rfl rfl ?_
  refine Aa fun K1 hK1=>?_
  refine Ac ?_
  simp (disch:=omega) only [amL,sA]
  refine hK1 _ ?_
  refine Aa fun K2 hK2=>?_
  refine Ac ?_
  simp (disch:=omega) only [amL,sA]
  refine hK2 _ ?_
  refine Aa fun K3 hK3=>?_
  refine Aa fun K4 hK4=>?_
  refine Ac ?_
  simp (disch:=omega) only [amL,amT,sA,↓reduceIte,reduceCtorEq]
  refine hK4 _ ?_
  refine Ap ?_
  skip
  refine Be (α:=Nat) (fun k=>⟨T [(0,.p (.sl (ls.map Aj5))),(3,i64 ((ls.take k).flatten.length:Int)),(9,.p (.sl (ls.map Aj5))),(10,i64 ls.length),(11,i64 (k:Int))],O []⟩) (fun k=>ls.length - k) (fun k=>k≤ls.length) 0 ?_ ?_ (fun k hx5 K5 hK5=>?_)
  · simp
  · refine De ?_ ?_ ?_ ?_ <;> (try simp (disch:=omega) only [amL,sF,↓reduceIte,reduceCtorEq]); all_goals rfl
  have hk:=hx5; have hk2:=Tp (l:=ls) k; have hk3:=Tp (l:=ls) (k+1)
  refine Aa fun K6 hK6=>?_
  refine Ac ?_
  simp (disch:=omega) only [amL,amT,sA,sF,↓reduceIte,reduceCtorEq]
  refine hK6 _ ?_
  refine Aa fun K7 hK7=>?_
  refine Aj rfl (fun h=>?_) (fun h=>?_)
  ·first
   | exact Bool.noConfusion h
   |skip
    try simp only [decide_eq_true_eq] at h
    refine Ak ?_
    refine hK7 _ ?_
    refine Aa fun K8 hK8=>?_
    refine Ap ?_
    refine Aa fun K9 hK9=>?_
    refine Ac ?_
    simp (disch:=omega) only [Xw,amL,amT,sA,sF,↓reduceIte,reduceCtorEq]
    refine hK9 _ ?_
    refine Aa fun K10 hK10=>?_
    refine Ac ?_
    have hk4:=congrArg List.length (Yz (l:=ls) (k:=k) (by omega))
    rw [List.length_append] at hk4
    simp (disch:=omega) only [amL,amT,sA,sF,↓reduceIte,reduceCtorEq]
    refine hK10 _ ?_
    refine Aa fun K11 hK11=>?_
    refine Ac ?_
    simp (disch:=omega) only [amL,amT,sA,↓reduceIte]
    refine hK11 _ ?_
    refine Aj rfl (fun h=>?_) (fun h=>?_)
    ·first
     | exact Bool.noConfusion h
     |skip
      try simp only [Bool.not_eq_true',decide_eq_true_eq,decide_eq_false_iff_not,Bool.and_eq_true,Bool.not_eq_false',Bool.not_not,decide_not,Bool.not_true,Bool.not_false] at h
      exfalso; omega
    ·first
     | exact Bool.noConfusion h
     |skip
      try simp only [decide_eq_false_iff_not] at h
      refine Ak ?_
      refine hK8 _ ?_
      refine Ac ?_
      simp (disch:=omega) only [amL,amT,sA,sF,↓reduceIte,reduceCtorEq]
      refine hK5 (k+1) _ ?_ ?_ (De ?_ ?_ ?_ ?_)
      all_goals (try simp (disch:=omega) only [amL,sF,↓reduceIte,reduceCtorEq])
      all_goals first | omega | exact congrArg i64 (by omega) | trace_state
  ·first
   | exact Bool.noConfusion h
   |skip
    try simp only [decide_eq_false_iff_not] at h
    refine Bo ?_
    refine hK3 _ ?_
    refine Aa fun K12 hK12=>?_
    refine Ac ?_
    have htk:ls.take k=ls:=List.take_of_length_le (by omega)
    simp (disch:=omega) only [htk,amL,sA,sF,↓reduceIte,reduceCtorEq]
    repeat' first | (refine V9 (by kernel_rfl) (by decide) (Axv ls.flatten.length hf) (by simp (disch:=omega) only [amL]) ?_ ; simp (disch:=omega) only [amL,sA,↓reduceIte])
    refine hK12 _ ?_
    refine Aa fun K13 hK13=>?_
    refine Aa fun K14 hK14=>?_
    refine Ac ?_
    simp (disch:=omega) only [amL,amT,sA,↓reduceIte,reduceCtorEq]
    refine hK14 _ ?_
    refine Ap ?_
    refine V3 24 33 rfl (by decide) (by decide) ?_
    refine Be (α:=Nat) (fun k=>⟨T [(6,.own 33 (ls.take k).flatten.length),(25,.p (.sl (ls.map Aj5))),(26,i64 ls.length),(27,i64 (k:Int))],O [(33,.arr 1 ((ls.take k).flatten.map J8))]⟩) (fun k=>ls.length - k) (fun k=>k≤ls.length) 0 ?_ ?_ (fun k hx15 K15 hK15=>?_)
    · simp
    · refine De ?_ ?_ ?_ ?_ <;> (try simp (disch:=omega) only [Wu,Aao,AV.ren,AO.ren,rn,amL,sF,↓reduceIte]); all_goals first | rfl | trace_state
    have hk:=hx15; have hk2:=Tp (l:=ls) k; have hk3:=Tp (l:=ls) (k+1)
    refine Aa fun K16 hK16=>?_
    refine Ac ?_
    simp (disch:=omega) only [amL,amT,sA,sF,↓reduceIte]
    refine hK16 _ ?_
    refine Aa fun K17 hK17=>?_
    refine Aj rfl (fun h=>?_) (fun h=>?_)
    ·first
     | exact Bool.noConfusion h
     |skip
      try simp only [decide_eq_true_eq] at h
      refine Ak ?_
      refine hK17 _ ?_
      refine Aa fun K18 hK18=>?_
      refine Ap ?_
      refine Aa fun K19 hK19=>?_
      refine Ac ?_
      simp (disch:=omega) only [Xw,amL,amT,sA,sF,↓reduceIte]
      refine hK19 _ ?_
      refine Ac ?_
      have hk5:=Yz (l:=ls) (k:=k) (by omega)
      have hk4:=congrArg List.length hk5
      rw [List.length_append] at hk4
      simp (disch:=omega) only [Anz,amL,amT,sA,sF,↓reduceIte]
      refine hK18 _ ?_
      refine Ac ?_
      simp (disch:=omega) only [amL,amT,sA,sF,↓reduceIte]
      refine hK15 (k+1) _ ?_ ?_ (De ?_ ?_ ?_ ?_)
      all_goals (try simp (disch:=omega) only [amL,sF,↓reduceIte])
      all_goals first | omega | (rw [hk4]; done) | (rw [hk5,List.map_append]; done) | (rw [hk5,List.map_append]; rfl) | trace_state
    ·first
     | exact Bool.noConfusion h
     |skip
      try simp only [decide_eq_false_iff_not] at h
      refine Bo ?_
      refine hK13 _ ?_
      refine Aa fun K20 hK20=>?_
      refine Ac ?_
      simp (disch:=omega) only [amL,sA,sF,↓reduceIte]
      refine hK20 _ ?_
      refine Ah ?_
      try simp (disch:=omega) only [Du,amL,↓reduceIte]
      rw [List.take_of_length_le (show ls.length≤k by omega)] ; exact Kz rfl (List.length_map _).symm (Aen _)
theorem Ab6 {α β:Type} {l:List α} {f:α→β} {k:Nat} (d:α) (h:k < l.length):(l.take (k+1)).map f=(l.take k).map f++[f (l.getD k d)]:=by
  rw [List.take_add_one,List.getElem?_eq_getElem h,List.map_append]
  simp [List.getD,h]
theorem Aog {α:Type} {l:List α} {p:List Rng} {f:α→Rng} {k:Nat} (d:α) (h:k < l.length):(p++(l.take k).map f).map H9++[H9 (f (l.getD k d))]=(p++(l.take (k+1)).map f).map H9:=by
  rw [Ab6 d h]; simp
theorem Axc {α β:Type} {l:List α} {p:List β} {f:α→β} {k:Nat} (h:k < l.length):(p++(l.take k).map f).length+1=(p++(l.take (k+1)).map f).length:=by simp; omega
theorem Vp {α:Type} {l:List α} {k:Nat} (h1:k≤l.length) (h2:¬ (k:Int) < l.length):l.take k=l:=List.take_of_length_le (by omega)
theorem Ad6 (b:Ee) (hl:b.vs.length < 1000000) (hl2:b.ss.length < 1000000):Bt Tryz.prog 58 [avB b] (.p (.sl ((Fz b).map H9))):=by
  refine Bn (v:=[]) (q:=[]) (N:=49) (rs:=[.tmp 2]) Tryz.func58 rfl rfl rfl rfl rfl ?_
  obtain ⟨p1,hp1⟩:∃ p,p=([]:List Rng):=⟨_,rfl⟩
  obtain ⟨p2,hp2⟩:∃ p,p=b.vs.map (·.g):=⟨_,rfl⟩
  obtain ⟨p3,hp3⟩:∃ p,p=b.vs.map (·.g)++b.vs.map (·.d):=⟨_,rfl⟩
  refine Aa fun K1 hK1=>?_
  refine Ac ?_
  simp (disch:=omega) only [amL,sA,↓reduceIte]
  refine hK1 _ ?_
  refine Aa fun K2 hK2=>?_
  refine Aa fun K3 hK3=>?_
  refine Ac ?_
  simp (disch:=omega) only [amL,amT,sA,sF,↓reduceIte,reduceCtorEq]
  refine hK3 _ ?_
  refine Ap ?_
  refine Po 20 2 2 (by decide) rfl rfl ?_
  refine Be (α:=Nat) (fun k=>⟨T [(1,.ptr 1 0),(2,.own 20 (p1++(b.vs.take k).map (·.g)).length),(10,.p (slV b.vs)),(11,i64 b.vs.length),(12,i64 (k:Int))],O [(1,.cells (cB b)),(20,.arr 2 ((p1++(b.vs.take k).map (·.g)).map H9))]⟩) (fun k=>b.vs.length - k) (fun k=>k≤b.vs.length) 0 ?_ ?_ (fun k hx4 K4 hK4=>?_)
  · simp
  · refine De ?_ ?_ ?_ ?_ <;> (try simp (disch:=omega) only [amL,sF,sG,↓reduceIte]); all_goals subst hp1; rfl
  have hk:=hx4; have hk2:(p1++(b.vs.take k).map (·.g)).length≤2000000:=(by subst hp1; simp; omega)
  refine Aa fun K5 hK5=>?_
  refine Ac ?_
  simp (disch:=omega) only [amL,amT,sA,sF,↓reduceIte]
  refine hK5 _ ?_
  refine Aa fun K6 hK6=>?_
  refine Aj rfl (fun h=>?_) (fun h=>?_)
  ·first
   | exact Bool.noConfusion h
   |skip
    try simp only [decide_eq_true_eq] at h
    refine Ak ?_
    refine hK6 _ ?_
    refine Aa fun K7 hK7=>?_
    refine Ap ?_
    refine Aa fun K8 hK8=>?_
    refine Ac ?_
    simp (disch:=omega) only [Di,amL,amT,sA,sB,sF,↓reduceIte]
    refine hK8 _ ?_
    refine Ac ?_
    simp (disch:=omega) only [amL,amT,sA,sB,sC,sE,sF,↓reduceIte,reduceCtorEq]
    refine hK7 _ ?_
    refine Ac ?_
    simp (disch:=omega) only [amL,amT,sA,sF,↓reduceIte]
    refine hK4 (k+1) _ ?_ ?_ (De ?_ ?_ ?_ ?_)
    all_goals (try simp (disch:=omega) only [amL,sF,sG,↓reduceIte])
    all_goals first | omega | exact congrArg (AV.own _) (Axc (by omega)) | exact congrArg (AO.arr 2) (Aog default (by omega)) | trace_state
  ·first
   | exact Bool.noConfusion h
   |skip
    try simp only [decide_eq_false_iff_not] at h
    refine Bo ?_
    refine hK2 _ ?_
    refine Aa fun K9 hK9=>?_
    refine Aa fun K10 hK10=>?_
    refine Ac ?_
    simp (disch:=omega) only [amL,amT,sA,sF,↓reduceIte,reduceCtorEq]
    refine hK10 _ ?_
    refine Ap ?_
    refine V3 20 33 rfl (by decide) (by decide) ?_
    refine Be (α:=Nat) (fun k=>⟨T [(1,.ptr 1 0),(2,.own 33 (p2++(b.vs.take k).map (·.d)).length),(23,.p (slV b.vs)),(24,i64 b.vs.length),(25,i64 (k:Int))],O [(1,.cells (cB b)),(33,.arr 2 ((p2++(b.vs.take k).map (·.d)).map H9))]⟩) (fun k=>b.vs.length - k) (fun k=>k≤b.vs.length) 0 ?_ ?_ (fun k hx11 K11 hK11=>?_)
    · simp
    · refine De ?_ ?_ ?_ ?_ <;> (try simp (disch:=omega) only [Wu,Aao,AV.ren,AO.ren,rn,amL,sF,sG,↓reduceIte]); all_goals first | rfl | (rw [Vp (by assumption) (by assumption)]; subst hp1 hp2; simp)
    have hk:=hx11; have hk2:(p2++(b.vs.take k).map (·.d)).length≤3000000:=(by subst hp2; simp; omega)
    refine Aa fun K12 hK12=>?_
    refine Ac ?_
    simp (disch:=omega) only [amL,amT,sA,sF,↓reduceIte]
    refine hK12 _ ?_
    refine Aa fun K13 hK13=>?_
    refine Aj rfl (fun h=>?_) (fun h=>?_)
    ·first
     | exact Bool.noConfusion h
     |skip
      try simp only [decide_eq_true_eq] at h
      refine Ak ?_
      refine hK13 _ ?_
      refine Aa fun K14 hK14=>?_
      refine Ap ?_
      refine Aa fun K15 hK15=>?_
      refine Ac ?_
      simp (disch:=omega) only [Di,amL,amT,sA,sB,sF,↓reduceIte]
      refine hK15 _ ?_
      refine Ac ?_
      simp (disch:=omega) only [amL,amT,sA,sB,sC,sE,sF,↓reduceIte,reduceCtorEq]
      refine hK14 _ ?_
      refine Ac ?_
      simp (disch:=omega) only [amL,amT,sA,sF,↓reduceIte]
      refine hK11 (k+1) _ ?_ ?_ (De ?_ ?_ ?_ ?_)
      all_goals (try simp (disch:=omega) only [amL,sF,sG,↓reduceIte])
      all_goals first | omega | exact congrArg (AV.own _) (Axc (by omega)) | exact congrArg (AO.arr 2) (Aog default (by omega)) | trace_state
    ·first
     | exact Bool.noConfusion h
     |skip
      try simp only [decide_eq_false_iff_not] at h
      refine Bo ?_
      refine hK9 _ ?_
      refine Aa fun K16 hK16=>?_
      refine Aa fun K17 hK17=>?_
      refine Ac ?_
      simp (disch:=omega) only [amL,amT,sA,sF,↓reduceIte,reduceCtorEq]
      refine hK17 _ ?_
      refine Ap ?_
      refine V3 33 46 rfl (by decide) (by decide) ?_
      refine Be (α:=Nat) (fun k=>⟨T [(1,.ptr 1 0),(2,.own 46 (p3++(b.ss.take k).map (·.g)).length),(36,.p (slS b.ss)),(37,i64 b.ss.length),(38,i64 (k:Int))],O [(1,.cells (cB b)),(46,.arr 2 ((p3++(b.ss.take k).map (·.g)).map H9))]⟩) (fun k=>b.ss.length - k) (fun k=>k≤b.ss.length) 0 ?_ ?_ (fun k hx18 K18 hK18=>?_)
      · simp
      · refine De ?_ ?_ ?_ ?_ <;> (try simp (disch:=omega) only [Wu,Aao,AV.ren,AO.ren,rn,amL,sF,sG,↓reduceIte]); all_goals first | rfl | (rw [Vp (by assumption) (by assumption)]; subst hp2 hp3; simp)
      have hk:=hx18; have hk2:(p3++(b.ss.take k).map (·.g)).length≤4000000:=(by subst hp3; simp; omega)
      refine Aa fun K19 hK19=>?_
      refine Ac ?_
      simp (disch:=omega) only [amL,amT,sA,sF,↓reduceIte]
      refine hK19 _ ?_
      refine Aa fun K20 hK20=>?_
      refine Aj rfl (fun h=>?_) (fun h=>?_)
      ·first
       | exact Bool.noConfusion h
       |skip
        try simp only [decide_eq_true_eq] at h
        refine Ak ?_
        refine hK20 _ ?_
        refine Aa fun K21 hK21=>?_
        refine Ap ?_
        refine Aa fun K22 hK22=>?_
        refine Ac ?_
        simp (disch:=omega) only [Xh,amL,amT,sA,sB,sF,↓reduceIte]
        refine hK22 _ ?_
        refine Ac ?_
        simp (disch:=omega) only [amL,amT,sA,sB,sC,sE,sF,↓reduceIte,reduceCtorEq]
        refine hK21 _ ?_
        refine Ac ?_
        simp (disch:=omega) only [amL,amT,sA,sF,↓reduceIte]
        refine hK18 (k+1) _ ?_ ?_ (De ?_ ?_ ?_ ?_)
        all_goals (try simp (disch:=omega) only [amL,sF,sG,↓reduceIte])
        all_goals first | omega | exact congrArg (AV.own _) (Axc (by omega)) | exact congrArg (AO.arr 2) (Aog default (by omega)) | trace_state
      ·first
       | exact Bool.noConfusion h
       |skip
        try simp only [decide_eq_false_iff_not] at h
        refine Bo ?_
        refine hK16 _ ?_
        refine Aa fun K23 hK23=>?_
        refine Ac ?_
        simp (disch:=omega) only [amL,sA,sF,↓reduceIte]
        refine hK23 _ ?_
        refine Ah ?_
        try simp (disch:=omega) only [amL,sF,↓reduceIte]
        rw [List.take_of_length_le (by simp),Vp hk h,hp3]; rfl
theorem elV:ElT Tryz.prog 35 128 avV Aga:=Aav (P:=Tryz.prog) (tS:=35) (tE:=128) (enc:=Aga) (n:=5) (by simp only [amT]) (by simp only [amT]; rfl) (by simp only [amT]) (fun _=>rfl)
theorem elS:ElT Tryz.prog 36 135 avS Qa:=Aav (P:=Tryz.prog) (tS:=36) (tE:=135) (enc:=Qa) (n:=5) (by simp only [amT]) (by simp only [amT]; rfl) (by simp only [amT]) (fun _=>rfl)
theorem elR:ElT Tryz.prog 113 58 avR H9:=Aav (P:=Tryz.prog) (tS:=113) (tE:=58) (enc:=H9) (n:=2) (by simp only [amT]) (by simp only [amT]; rfl) (by simp only [amT]) (fun _=>rfl)
theorem elN:ElT Tryz.prog 26 3 i64 J8:=Ar1 (P:=Tryz.prog) (tS:=26) (tE:=3) (f:=fun n=>iv n) (by simp only [amT]) (by simp only [amT]; rfl) (by simp only [amT])
theorem sfV:M3 Tryz.prog 35 128 132 3 4 127 105:=⟨⟨_,Tryz.func127,rfl,rfl,rfl,by kernel_rfl⟩,⟨_,Tryz.func105,rfl,rfl,rfl,by kernel_rfl⟩⟩
theorem afV:Ajx Tryz.prog 35 128 132 4 105 106 66:=⟨⟨_,Tryz.func106,rfl,rfl,rfl,by kernel_rfl⟩,⟨_,Tryz.func66,rfl,rfl,rfl,by kernel_rfl⟩⟩
theorem sfS:M3 Tryz.prog 36 135 130 3 4 128 107:=⟨⟨_,Tryz.func128,rfl,rfl,rfl,by kernel_rfl⟩,⟨_,Tryz.func107,rfl,rfl,rfl,by kernel_rfl⟩⟩
theorem afS:Ajx Tryz.prog 36 135 130 4 107 108 68:=⟨⟨_,Tryz.func108,rfl,rfl,rfl,by kernel_rfl⟩,⟨_,Tryz.func68,rfl,rfl,rfl,by kernel_rfl⟩⟩
theorem Aw7 (l:List Ves) (hl:l.length < 1000000) {os:Nat→Option AO} {bd:Nat}:Bg Tryz.prog bd (.fn (.func 66) [] []) [.p (slV l),.fn (.func 67) [] []] os fun res os'=>res=bl (l.all Eu)∧os'=os:=
  Ann elV sfV afV (by simp only [amT]; rfl) (by kernel_rfl) rfl (fun x _=>Aph x) hl
theorem Aya (b:Ee) (l:List Stp) (hb:b.vs.length < 1000000) (hl:l.length < 1000000) {os:Nat→Option AO} {bd:Nat}:Bg Tryz.prog bd (.fn (.func 68) [] []) [.p (slS l),.fn (.func 65) [avB b] []] os fun res os'=>res=bl (l.all (F7 b.vs.length))∧os'=os:=
  Ann elS sfS afS (by simp only [amT]; rfl) (by kernel_rfl) rfl (fun x _=>Ayv b x hb) hl
theorem Aiu {p s:Int} (h1:1≤p) (h2:p≤4782969) (h3:1≤s) (h4:s≤3):-9223372036854775808≤p * s∧p * s < 9223372036854775808:=by
  have e1:=Int.mul_le_mul h2 h4 (by omega) (by omega)
  have e2:=Int.mul_nonneg (show 0≤p by omega) (show 0≤s by omega)
  omega
theorem Ag7 (b:Ee) (hl:b.vs.length < 1000000) (hl2:b.ss.length < 1000000):Bt Tryz.prog 19 [avB b] (i64 (B5 b)):=by
  refine Bn (v:=[66,68]) (q:=[]) (N:=52) (rs:=[.tmp 2]) Tryz.func19 rfl rfl rfl rfl rfl ?_
  refine Aa fun K1 hK1=>?_
  refine Ac ?_
  simp (disch:=omega) only [amL,sA,↓reduceIte]
  refine hK1 _ ?_
  refine Aa fun K2 hK2=>?_
  refine Ac ?_
  simp (disch:=omega) only [amL,amT,sA,sB,sF,↓reduceIte]
  refine hK2 _ ?_
  refine Aa fun K3 hK3=>?_
  refine Ap ?_
  refine Aa fun K4 hK4=>?_
  refine Ac ?_
  simp (disch:=omega) only [amL,amT,sA,sF,↓reduceIte,reduceCtorEq]
  repeat' first | (refine E0 (fun h=>?_) (fun h=>?_) <;> simp (disch:=omega) only [h,amL,amT,sA,sF,↓reduceIte,reduceCtorEq]) | (refine Cz (fun h=>?_) (fun h=>?_) <;> simp (disch:=omega) only [h,Bh,amL,amT,sA,sB,sC,sD,sE,sF,sG,sH,sI,sJ,sK,sL,sM,sN,sO,↓reduceIte,reduceCtorEq])
  all_goals
   skip
   refine hK4 _ ?_
   refine Aj rfl (fun h=>?_) (fun h=>?_)
   ·first
    | exact Bool.noConfusion h
    |skip
     try simp only [decide_eq_true_eq] at h
     refine Aa fun K5 hK5=>?_
     refine Ac ?_
     simp (disch:=omega) only [amL,sA]
     refine hK5 _ ?_
     refine Ah ?_
     try simp (disch:=omega) only [amL,↓reduceIte]
     all_goals first | (unfold B5; rw [if_pos (by omega)]; done) | (unfold B5; rw [if_neg (by omega),if_pos (by omega)]; done) | (unfold B5; rw [if_neg (by omega),if_neg (by omega),if_pos (by first | (simp_all; done) | fail)]; done) | (unfold B5; rw [if_neg (by omega),if_neg (by omega),if_neg (by first | (simp_all; done) | fail),if_pos (by first | assumption | fail)]; done) | (unfold B5; rw [if_neg (by omega),if_neg (by omega),if_neg (by rw [hv]; decide),if_neg (by rw [hs]; decide)]; rw [Vp (by assumption) (by assumption)] at h; first | (rw [if_pos (show 2000 < Pb b from h)]; done) | (rw [if_neg (show ¬ 2000 < Pb b from h)]; done)) | trace_state
   ·first
    | exact Bool.noConfusion h
    |skip
     try simp only [decide_eq_false_iff_not] at h
     refine Aa fun K6 hK6=>?_
     refine Ac ?_
     simp (disch:=omega) only [amL,amT,sA,sF,↓reduceIte,reduceCtorEq]
     repeat' first | (refine E0 (fun h=>?_) (fun h=>?_) <;> simp (disch:=omega) only [h,amL,amT,sA,sF,sG,↓reduceIte,reduceCtorEq]) | (refine Cz (fun h=>?_) (fun h=>?_) <;> simp (disch:=omega) only [h,amL,amT,sA,sF,sG,↓reduceIte,reduceCtorEq]) | (refine Cb (bd:=52) (by decide) (Aw7 b.vs hl) (Lx rfl) (by decide) rfl ?_ ; simp (disch:=omega) only [amL,sA,sF,↓reduceIte]) | (refine Cb (bd:=52) (by decide) (Aya b b.ss hl hl2) (Lx rfl) (by decide) rfl ?_ ; simp (disch:=omega) only [amL,sA,sF,↓reduceIte])
     all_goals
      skip
      refine hK6 _ ?_
      refine Aj rfl (fun h=>?_) (fun h=>?_)
      ·first
       | exact Bool.noConfusion h
       |skip
        try simp only [Bool.not_eq_true'] at h
        refine Aa fun K7 hK7=>?_
        refine Ac ?_
        simp (disch:=omega) only [amL,sA]
        refine hK7 _ ?_
        refine Ah ?_
        try simp (disch:=omega) only [amL,↓reduceIte]
        all_goals first | (unfold B5; rw [if_pos (by omega)]; done) | (unfold B5; rw [if_neg (by omega),if_pos (by omega)]; done) | (unfold B5; rw [if_neg (by omega),if_neg (by omega),if_pos (by first | (simp_all; done) | fail)]; done) | (unfold B5; rw [if_neg (by omega),if_neg (by omega),if_neg (by first | (simp_all; done) | fail),if_pos (by first | assumption | fail)]; done) | (unfold B5; rw [if_neg (by omega),if_neg (by omega),if_neg (by rw [hv]; decide),if_neg (by rw [hs]; decide)]; rw [Vp (by assumption) (by assumption)] at h; first | (rw [if_pos (show 2000 < Pb b from h)]; done) | (rw [if_neg (show ¬ 2000 < Pb b from h)]; done)) | trace_state
      ·first
       | exact Bool.noConfusion h
       |skip
        try simp only [Bool.not_eq_false'] at h
        refine Ak ?_
        refine hK3 _ ?_
        refine Aa fun K8 hK8=>?_
        refine Ac ?_
        have hv:b.vs.all Eu=true:=by simp_all
        have hs:b.ss.all (F7 b.vs.length)=true:=by simp_all
        have hpb:=Vg (Yv hv hs)
        have hln:=Qo (b:=b)
        simp (disch:=omega) only [amL,sA]
        refine hK8 _ ?_
        refine Aa fun K9 hK9=>?_
        refine Aa fun K10 hK10=>?_
        refine Ac ?_
        simp (disch:=omega) only [amL,amT,sA,sB,sF,sG,↓reduceIte]
        repeat' first | (refine Aw (by kernel_rfl) rfl (Ad6 b hl hl2) (by first | exact .inl rfl | exact .inr (.inl rfl)) ?_ ; simp (disch:=omega) only [amL,amT,sA,↓reduceIte])
        refine hK10 _ ?_
        refine Ap ?_
        skip
        refine Be (α:=Nat) (fun k=>⟨T [(4,i64 (Mb ((Fz b).take k) 1)),(39,.p (.sl ((Fz b).map H9))),(40,i64 (Fz b).length),(41,i64 (k:Int))],O []⟩) (fun k=>(Fz b).length - k) (fun k=>k≤(Fz b).length) 0 ?_ ?_ (fun k hx11 K11 hK11=>?_)
        · simp
        · refine De ?_ ?_ ?_ ?_ <;> (try simp (disch:=omega) only [amL,sF,↓reduceIte]); all_goals rfl
        have hk:=hx11
        refine Aa fun K12 hK12=>?_
        refine Ac ?_
        simp (disch:=omega) only [amL,amT,sA,sF,↓reduceIte]
        refine hK12 _ ?_
        refine Aa fun K13 hK13=>?_
        refine Aj rfl (fun h=>?_) (fun h=>?_)
        ·first
         | exact Bool.noConfusion h
         |skip
          try simp only [decide_eq_true_eq] at h
          refine Ak ?_
          refine hK13 _ ?_
          refine Aa fun K14 hK14=>?_
          refine Ap ?_
          refine Aa fun K15 hK15=>?_
          refine Ac ?_
          simp (disch:=omega) only [Bh,amL,amT,sA,sB,sF,↓reduceIte]
          refine hK15 _ ?_
          refine Ac ?_
          have hsz:=Yv hv hs _ (AM.Wort.Dy default (show k < (Fz b).length by omega))
          have hp:=hpb k (by omega)
          have hp3:=Aq1 (k:=k) (by omega)
          have hm:=Aiu hp.1 (by omega) hsz.1 hsz.2
          have hw:IntKind.i64.wrap (Mb ((Fz b).take k) 1 * Fa ((Fz b).getD k default))=_:=Fc hm.1 hm.2
          have hw2:IntKind.i64.wrap ((k:Int)+1)=_:=Fc (by omega) (by omega)
          unfold Fa at hsz
          simp (disch:=omega) only [amL,amT,sA,sB,sF,sG,↓reduceIte]
          repeat' first | (refine Aw (by kernel_rfl) rfl (Aeq ((Fz b).getD k default) (by omega) (by omega)) (by first | exact .inl rfl | exact .inr (.inl rfl)) ?_ ; simp (disch:=omega) only [amL,amT,sA,sF,↓reduceIte])
          refine hK14 _ ?_
          refine Ac ?_
          simp (disch:=omega) only [amL,amT,sA,sF,↓reduceIte]
          refine hK11 (k+1) _ ?_ ?_ (De ?_ ?_ ?_ ?_)
          all_goals (try simp (disch:=omega) only [amL,sF,↓reduceIte])
          all_goals first | omega | (rw [Uj (l:=Fz b) (k:=k) (by omega)]) | trace_state
        ·first
         | exact Bool.noConfusion h
         |skip
          try simp only [decide_eq_false_iff_not] at h
          refine Bo ?_
          refine hK9 _ ?_
          refine Aa fun K16 hK16=>?_
          refine Aa fun K17 hK17=>?_
          refine Ac ?_
          simp (disch:=omega) only [amL,amT,sA,sF,↓reduceIte]
          refine hK17 _ ?_
          refine Aj rfl (fun h=>?_) (fun h=>?_)
          ·first
           | exact Bool.noConfusion h
           |skip
            try simp only [decide_eq_true_eq] at h
            refine Aa fun K18 hK18=>?_
            refine Ac ?_
            simp (disch:=omega) only [amL,sA]
            refine hK18 _ ?_
            refine Ah ?_
            try simp (disch:=omega) only [amL,↓reduceIte]
            all_goals first | (unfold B5; rw [if_pos (by omega)]; done) | (unfold B5; rw [if_neg (by omega),if_pos (by omega)]; done) | (unfold B5; rw [if_neg (by omega),if_neg (by omega),if_pos (by first | (simp_all; done) | fail)]; done) | (unfold B5; rw [if_neg (by omega),if_neg (by omega),if_neg (by first | (simp_all; done) | fail),if_pos (by first | assumption | fail)]; done) | (unfold B5; rw [if_neg (by omega),if_neg (by omega),if_neg (by rw [hv]; decide),if_neg (by rw [hs]; decide)]; rw [Vp (by assumption) (by assumption)] at h; first | (rw [if_pos (show 2000 < Pb b from h)]; done) | (rw [if_neg (show ¬ 2000 < Pb b from h)]; done)) | trace_state
          ·first
           | exact Bool.noConfusion h
           |skip
            try simp only [decide_eq_false_iff_not] at h
            refine Ak ?_
            refine hK16 _ ?_
            refine Aa fun K19 hK19=>?_
            refine Ac ?_
            simp (disch:=omega) only [amL,sA]
            refine hK19 _ ?_
            refine Ah ?_
            try simp (disch:=omega) only [amL,↓reduceIte]
            all_goals first | (unfold B5; rw [if_pos (by omega)]; done) | (unfold B5; rw [if_neg (by omega),if_pos (by omega)]; done) | (unfold B5; rw [if_neg (by omega),if_neg (by omega),if_pos (by first | (simp_all; done) | fail)]; done) | (unfold B5; rw [if_neg (by omega),if_neg (by omega),if_neg (by first | (simp_all; done) | fail),if_pos (by first | assumption | fail)]; done) | (unfold B5; rw [if_neg (by omega),if_neg (by omega),if_neg (by rw [hv]; decide),if_neg (by rw [hs]; decide)]; rw [Vp (by assumption) (by assumption)] at h; first | (rw [if_pos (show 2000 < Pb b from h)]; done) | (rw [if_neg (show ¬ 2000 < Pb b from h)]; done)) | trace_state
theorem Ax {l:List (Nat × AO)} {b:Nat} (h:l.all fun x=>decide (x.1 < b)):∀ n,b≤n→O l n=none:=by
  intro n hn
  induction l with
  | nil=>rfl
  | cons x l ih=>
    simp only [List.all_cons,Bool.and_eq_true,decide_eq_true_eq] at h
    rw [Ag,if_neg (by omega)]
    exact ih h.2
theorem Bv {r:RB} {N:Nat} {s:St} {K:St→Prop} {dst:Option Nat} {ty:TypeId} {pos:String} {after:Array Edge} {g:Option (Nat × Bool)} {x:Operand} {lo hi:Option Operand}:EO Tryz.prog r N ⟨dst,.slice 120 x lo hi none,ty,pos,after,g⟩ s K=EOp r.b N dst s K (Asg (fun e=>(Ab Tryz.prog e).sz) (fun e=>(Ab Tryz.prog e).agg) 4 118 (ev s.t x) (A9 (ev s.t) 0 lo) (A9 (ev s.t) 4 hi)):=Zd (by rw [Agi])
theorem ld2 {a b:AV} {l:List AV}:(if 2≤(a :: b :: l).length then some (AV.agg (List.take 2 (a :: b :: l))) else none)=some (.agg [a,b]):=by simp
theorem B9 {n:Nat} (v:List Liq):(cW v).map (AV.purge n)=cW v:=by
  unfold cW
  rw [List.map_map]; rfl
theorem Aec {ks:List Nat} (v:List Liq):nmL ks (cW v)=true:=by
  unfold cW
  generalize wI v=l
  induction l with
  | nil=>rfl
  | cons x l ih=>simp only [List.map_cons,nmL,nm,ih,Bool.and_self]
def Dk (b:Ee) (t:Tru):AV:=
  if B5 b=0 then
    if F1 b t=true then
      if (Mo b t).2=true then .tup [.p (.sl (((Mo b t).1.take b.vs.length).map fun l=>Bb7 (Azh l))),i64 0] else .tup [C3,i64 11]
    else .tup [C3,i64 2]
  else .tup [C3,i64 (B5 b)]
theorem Ai3 (b:Ee) (t:Tru):(Dk b t).isP=true:=by
  unfold Dk; split <;> (try split) <;> (try split) <;> rfl
theorem Ar6 (b:Ee) (t:Tru) (hl:b.vs.length < 1000000) (hl2:b.ss.length < 1000000) (hn:(Jt t).length≤1000000):Bt Tryz.prog 15 [avB b,avT t] (Dk b t):=by
  refine Bn (v:=[60,61]) (q:=[]) (N:=99) (rs:=[.tmp 4,.tmp 5]) Tryz.func15 rfl rfl rfl rfl (Ai3 b t) ?_
  have hnl:=Ane t
  have hrl:=Qo (b:=b)
  have hcc:=An5 [t.g,t.d,t.m] (by simp) hn
  rw [show [t.g,t.d,t.m].flatten=Jt t from rfl] at hcc
  refine Aa fun K1 hK1=>?_
  refine Ac ?_
  simp (disch:=omega) only [Af,Ag,amL,sA,sB,sF,↓reduceIte,reduceCtorEq]
  refine hK1 _ ?_
  refine Aa fun K2 hK2=>?_
  refine Aa fun K3 hK3=>?_
  refine Ac ?_
  simp (disch:=omega) only [Af,Ag,amL,amT,sA,sB,sF,sG,↓reduceIte]
  repeat' first | (refine Aw (by kernel_rfl) rfl (Ag7 b hl hl2) (by first | exact .inl rfl | exact .inr (.inl rfl)) ?_ ; simp (disch:=omega) only [Af,amL,sA,↓reduceIte])
  refine hK3 _ ?_
  refine Aa fun K4 hK4=>?_
  refine Ac ?_
  simp (disch:=omega) only [ne_eq,Af,amL,amT,sA,↓reduceIte]
  refine hK4 _ ?_
  refine Aj rfl (fun h=>?_) (fun h=>?_)
  ·first
   | exact Bool.noConfusion h
   |skip
    try simp only [Bool.not_eq_true',decide_eq_false_iff_not,decide_not] at h
    refine Aa fun K5 hK5=>?_
    refine Ac ?_
    simp (disch:=omega) only [Af,amL,sA,sF,↓reduceIte]
    refine hK5 _ ?_
    refine Ah ?_
    try simp (disch:=omega) only [Af,amL,sF,↓reduceIte]
    all_goals first | (rw [Dk,if_neg (by assumption)]; done) | (have e9:k=b.vs.length:=(by omega) ; rw [Dk,if_pos hf0,if_pos hli,if_pos hbt,List.take_of_length_le (by simp ; omega),e9,hw] ; done) | (rw [Dk,if_pos hf0,if_pos hli,if_neg (by simpa using h)]; done) | (rw [Dk,if_pos (by omega),if_neg (fun e=>by have:=Dj e; omega)]; done) | (rw [Dk,if_pos (by omega),if_neg (fun e=>by have:=Kn e (k:=k) (by omega); simp_all)]; done) | trace_state
  ·first
   | exact Bool.noConfusion h
   |skip
    try simp only [decide_eq_true_eq,Bool.not_eq_false',decide_not] at h
    refine Ak ?_
    refine hK2 _ ?_
    refine Aa fun K6 hK6=>?_
    refine Ac ?_
    simp (disch:=omega) only [and_self,Af,Ag,amL,amT,sA,sB,sE,sF,sG,↓reduceIte,reduceCtorEq]
    repeat' first | (refine V9 (by kernel_rfl) (by decide) (hcc) (by simp (disch:=omega) only [Ag,amL,sF,↓reduceIte]) ?_ ; simp (disch:=omega) only [Af,amL,sA,↓reduceIte])
    refine hK6 _ ?_
    refine Aa fun K7 hK7=>?_
    refine Aa fun K8 hK8=>?_
    refine Ac ?_
    simp (disch:=omega) only [ne_eq,Af,Ag,amL,amT,sA,sF,↓reduceIte,reduceCtorEq]
    repeat' first | (refine E0 (fun h=>?_) (fun h=>?_) <;> simp (disch:=omega) only [h,ne_eq,Af,Ag,amL,amT,sA,sF,↓reduceIte,reduceCtorEq]) | (refine Cz (fun h=>?_) (fun h=>?_) <;> simp (disch:=omega) only [h,Bh,Bl,ne_eq,Ad,A2,Av,Ba,A4,and_self,Af,Ag,Az,Bv,B3,Bk,Bj,B1,Kl,Jp,Lp,Int.sub_zero,Int.toNat_natCast,Ca,ld2,B9,amL,amT,sA,sB,sC,sD,sE,sF,sG,sH,sI,sJ,sK,sL,sM,sN,sO,↓reduceIte,reduceCtorEq])
    all_goals
     skip
     refine hK8 _ ?_
     refine Aj rfl (fun h=>?_) (fun h=>?_)
     ·first
      | exact Bool.noConfusion h
      |skip
       try simp only [Bool.not_eq_true',decide_eq_false_iff_not,decide_not] at h
       refine Aa fun K9 hK9=>?_
       refine Ac ?_
       simp (disch:=omega) only [amL,sA]
       refine hK9 _ ?_
       refine Ah ?_
       try simp (disch:=omega) only [Af,amL,sF,↓reduceIte]
       all_goals first | (rw [Dk,if_neg (by assumption)]; done) | (have e9:k=b.vs.length:=(by omega) ; rw [Dk,if_pos hf0,if_pos hli,if_pos hbt,List.take_of_length_le (by simp ; omega),e9,hw] ; done) | (rw [Dk,if_pos hf0,if_pos hli,if_neg (by simpa using h)]; done) | (rw [Dk,if_pos (by omega),if_neg (fun e=>by have:=Dj e; omega)]; done) | (rw [Dk,if_pos (by omega),if_neg (fun e=>by have:=Kn e (k:=k) (by omega); simp_all)]; done) | trace_state
     ·first
      | exact Bool.noConfusion h
      |skip
       try simp only [decide_eq_true_eq,Bool.not_eq_false',decide_not] at h
       refine Ak ?_
       refine hK7 _ ?_
       refine Aa fun K10 hK10=>?_
       refine Aa fun K11 hK11=>?_
       refine Ac ?_
       simp (disch:=omega) only [Af,Ag,amL,amT,sA,sB,sF,sG,↓reduceIte]
       repeat' first | (refine Aw (by kernel_rfl) rfl (Ad6 b hl hl2) (by first | exact .inl rfl | exact .inr (.inl rfl)) ?_ ; simp (disch:=omega) only [Af,amL,amT,sA,↓reduceIte])
       refine hK11 _ ?_
       refine Ap ?_
       skip
       refine Be (α:=Nat) (fun k=>⟨T [(2,.ptr 2 0),(3,.ptr 3 0),(4,C3),(5,i64 0),(6,i64 (B5 b)),(7,.own 27 (Jt t).length),(54,.p (.sl ((Fz b).map H9))),(55,i64 (Fz b).length),(56,i64 (k:Int))],O [(2,.cells (cB b)),(3,.cells (cT t)),(27,.arr 1 ((Jt t).map J8))]⟩) (fun k=>(Fz b).length - k) (fun k=>k≤(Fz b).length∧∀ j,j < k→Jn ((Fz b).getD j default) ((Jt t).getD j 0)=true) 0 ?_ ?_ (fun k hx12 K12 hK12=>?_)
       · exact ⟨by simp,fun j hj=>absurd hj (Nat.not_lt_zero _)⟩
       · refine De ?_ ?_ ?_ ?_ <;> (try simp (disch:=omega) only [A2,Av,Ba,A4,and_self,Af,Ag,amL,sF,sG,↓reduceIte]); all_goals first | rfl | trace_state
       obtain ⟨hk,hpre⟩:=hx12
       refine Aa fun K13 hK13=>?_
       refine Ac ?_
       simp (disch:=omega) only [Af,amL,amT,sA,sF,↓reduceIte]
       refine hK13 _ ?_
       refine Aa fun K14 hK14=>?_
       refine Aj rfl (fun h=>?_) (fun h=>?_)
       ·first
        | exact Bool.noConfusion h
        |skip
         try simp only [decide_eq_true_eq] at h
         refine Ak ?_
         refine hK14 _ ?_
         refine Aa fun K15 hK15=>?_
         refine Ap ?_
         refine Aa fun K16 hK16=>?_
         refine Ac ?_
         simp (disch:=omega) only [Bh,and_self,Af,Ag,Int.toNat_natCast,amL,amT,sA,sB,sF,↓reduceIte]
         refine hK16 _ ?_
         refine Aa fun K17 hK17=>?_
         refine Ce (by kernel_rfl) (by kernel_rfl) ?_
         simp (disch:=omega) only [Bl,and_self,Af,Ag,Int.toNat_natCast,amL,amT,sA,sB,sF,sG,↓reduceIte]
         repeat' first | (refine Aw (by kernel_rfl) rfl (Agu ((Fz b).getD k default) ((Jt t).getD k 0)) (by first | exact .inl rfl | exact .inr (.inl rfl)) ?_ ; simp (disch:=omega) only [Af,amL,sA,↓reduceIte])
         refine hK17 _ ?_
         refine Aj rfl (fun h=>?_) (fun h=>?_)
         ·first
          | exact Bool.noConfusion h
          |skip
           try simp only [Bool.not_eq_true'] at h
           refine Aa fun K18 hK18=>?_
           refine Ac ?_
           simp (disch:=omega) only [amL,sA]
           refine hK18 _ ?_
           refine Ah ?_
           try simp (disch:=omega) only [Af,amL,sF,↓reduceIte]
           all_goals first | (rw [Dk,if_neg (by assumption)]; done) | (have e9:k=b.vs.length:=(by omega) ; rw [Dk,if_pos hf0,if_pos hli,if_pos hbt,List.take_of_length_le (by simp ; omega),e9,hw] ; done) | (rw [Dk,if_pos hf0,if_pos hli,if_neg (by simpa using h)]; done) | (rw [Dk,if_pos (by omega),if_neg (fun e=>by have:=Dj e; omega)]; done) | (rw [Dk,if_pos (by omega),if_neg (fun e=>by have:=Kn e (k:=k) (by omega); simp_all)]; done) | trace_state
         ·first
          | exact Bool.noConfusion h
          |skip
           try simp only [Bool.not_eq_false'] at h
           refine Ak ?_
           refine hK15 _ ?_
           refine Ac ?_
           simp (disch:=omega) only [Af,amL,amT,sA,sF,↓reduceIte]
           refine hK12 (k+1) _ ?_ ?_ (De ?_ ?_ ?_ ?_)
           all_goals (try simp (disch:=omega) only [A2,Av,Ba,A4,and_self,Af,Ag,amL,sF,sG,↓reduceIte])
           all_goals first | omega | exact ⟨by omega,fun j hj=>by
             by_cases e:j=k
             · subst e; assumption
             · exact hpre j (by omega)⟩ | trace_state
       ·first
        | exact Bool.noConfusion h
        |skip
         try simp only [decide_eq_false_iff_not] at h
         refine Bo ?_
         refine hK10 _ ?_
         refine Aa fun K19 hK19=>?_
         have hli:F1 b t=true:=Ak1 (by omega) (by omega) (by omega) (fun j hj=>hpre j (by omega))
         have hf0:B5 b=0:=by omega
         have hval:=Abs hf0
         obtain ⟨hw4,hwo⟩:=Amq hval hli
         obtain ⟨w,hw⟩:∃ w,w=(Mo b t).1:=⟨_,rfl⟩
         rw [← hw] at hw4 hwo
         have hpc:A0 [i64 0,i64 0,i64 0,i64 0,i64 0,i64 0,i64 0,i64 0] 0 (cW w)=cW w:=B7 (v:=v0) hw4
         refine Aku [(2,.ptr 2 0),(4,C3),(5,i64 0),(10,.ptr 10 0),(11,bl (Mo b t).2)] [(2,.cells (cB b)),(10,.cells (cW w))] hK19 rfl (by simp only [T7,nmO,Aec,nmL,nm,Bool.and_self]) ?_ (fun K19 hK19=>?_)
         · refine Amw (n:=5) (l:=[0,1,0,7,15,31,31,0,191,511]) (by kernel_rfl) (by kernel_rfl) (by kernel_rfl) ?_
           refine Fi (ls:=[0,2,7]) rfl ⟨?_,?_,?_,trivial⟩
           · refine D0 (rem':=[1,2,3,4,5,6,7,8,9]) rfl rfl ?_
             simp (disch:=omega) only [Af,Ag,amL,amT,sA,sB,sF,↓reduceIte]
             refine Fi (ls:=[1,2,7]) rfl ⟨?_,?_,?_,trivial⟩
             · refine D0 (rem':=[2,3,4,5,6,7,8,9]) rfl rfl ?_
               simp (disch:=omega) only [Af,amL,sG,↓reduceIte]
               refine A1 [(2,.ptr 2 0),(3,.ptr 3 0),(4,C3),(5,i64 0)] (by decide) (Dp (b:=b) (bd:=99)) (Ax rfl) (by decide) (fun res os2 hR hcl2 hlv2=>?_)
               obtain ⟨rfl,rfl⟩:=hR
               simp (disch:=omega) only [A2,Av,and_self,Af,Ag,amL,sB,sF,↓reduceIte]
               refine Fi (ls:=[2,7]) rfl ⟨?_,?_,trivial⟩
               · refine D0 (rem':=[3,4,5,6,7,8,9]) rfl rfl ?_
                 simp (disch:=omega) only [Af,Ag,amL,amT,sA,sB,sF,↓reduceIte]
                 refine Fi (ls:=[3,7]) rfl ⟨?_,?_,trivial⟩
                 · refine D0 (rem':=[4,5,6,7,8,9]) rfl rfl ?_
                   simp (disch:=omega) only [Af,amL,sF,sG,↓reduceIte]
                   (refine Cb (bd:=300) (by decide) (Ek (m:=103) ⟨by simp (disch:=omega) only [Ag,↓reduceIte],by simp (disch:=omega) only [Ag,sF,↓reduceIte]⟩ hval hli) (fun q hq=>by simp (disch:=omega) only []; exact Ax rfl q (by omega)) (by decide) (D1 _ _) ?_ ; rw [← hw] ; simp (disch:=omega) only [amL])
                   refine D3 (by kernel_rfl) ?_
                   show EL _ _ _ _ [_,_,_,_,_,_] _ _
                   simp (disch:=omega) only [and_self,Af,Ag,Az,amL,amT,sA,sB,sF,↓reduceIte]
                   try (refine A1 [(2,.ptr 2 0),(3,.ptr 3 0),(4,C3),(5,i64 0),(72,avT t),(10,.ptr 10 0)] (by decide) (Dp (b:=b) (bd:=99)) (Ax rfl) (by decide) (fun res os2 hR hcl2 hlv2=>?_) ; obtain ⟨rfl,rfl⟩:=hR ; simp (disch:=omega) only [Bh,Bl,ne_eq,Ad,A2,Av,Ba,A4,and_self,Af,Ag,Az,Bv,B3,Bk,Bj,B1,Kl,Jp,Lp,Int.sub_zero,Int.toNat_natCast,Ca,ld2,B9,amL,amT,sA,sB,sC,sD,sE,sF,sG,sH,sI,sJ,sK,sL,sM,sN,sO,↓reduceIte,reduceCtorEq])
                   try (refine Cb (bd:=300) (by decide) (Ek (m:=103) ⟨by simp (disch:=omega) only [Bh,Bl,ne_eq,Ad,A2,Av,Ba,A4,and_self,Af,Ag,Az,Bv,B3,Bk,Bj,B1,Kl,Jp,Lp,Int.sub_zero,Int.toNat_natCast,Ca,ld2,B9,amL,amT,sA,sB,sC,sD,sE,sF,sG,sH,sI,sJ,sK,sL,sM,sN,sO,↓reduceIte,reduceCtorEq],by simp (disch:=omega) only [Bh,Bl,ne_eq,Ad,A2,Av,Ba,A4,and_self,Af,Ag,Az,Bv,B3,Bk,Bj,B1,Kl,Jp,Lp,Int.sub_zero,Int.toNat_natCast,Ca,ld2,B9,amL,amT,sA,sB,sC,sD,sE,sF,sG,sH,sI,sJ,sK,sL,sM,sN,sO,↓reduceIte,reduceCtorEq]⟩ hval hli) (fun q hq=>by simp (disch:=omega) only [Ad]; exact Ax rfl q (by omega)) (by decide) (D1 _ _) ?_ ; rw [← hw] ; simp (disch:=omega) only [Bh,Bl,ne_eq,Ad,A2,Av,Ba,A4,and_self,Af,Ag,Az,Bv,B3,Bk,Bj,B1,Kl,Jp,Lp,Int.sub_zero,Int.toNat_natCast,Ca,ld2,B9,amL,amT,sA,sB,sC,sD,sE,sF,sG,sH,sI,sJ,sK,sL,sM,sN,sO,↓reduceIte,reduceCtorEq])
                   exact ⟨rfl,by simp (disch:=omega) only [A2,Av,and_self,Af,sF,↓reduceIte],by simp (disch:=omega) only [Ba,A4,Ag,amL,sF,↓reduceIte] ; try exact congrArg AO.cells hpc⟩
                 · refine D0 (rem':=[3,4,5,6,8,9]) rfl rfl ?_
                   simp (disch:=omega) only [and_self,Ag,amL,amT,sA,sB,sF,↓reduceIte]
                   refine D3 (by kernel_rfl) ?_
                   show EL _ _ _ _ [_,_,_,_,_,_] _ _
                   simp (disch:=omega) only [Af,amL,sF,sG,↓reduceIte]
                   try (refine A1 [(2,.ptr 2 0),(3,.ptr 3 0),(4,C3),(5,i64 0),(72,avT t),(10,.ptr 10 0)] (by decide) (Dp (b:=b) (bd:=99)) (Ax rfl) (by decide) (fun res os2 hR hcl2 hlv2=>?_) ; obtain ⟨rfl,rfl⟩:=hR ; simp (disch:=omega) only [Bh,Bl,ne_eq,Ad,A2,Av,Ba,A4,and_self,Af,Ag,Az,Bv,B3,Bk,Bj,B1,Kl,Jp,Lp,Int.sub_zero,Int.toNat_natCast,Ca,ld2,B9,amL,amT,sA,sB,sC,sD,sE,sF,sG,sH,sI,sJ,sK,sL,sM,sN,sO,↓reduceIte,reduceCtorEq])
                   try (refine Cb (bd:=300) (by decide) (Ek (m:=103) ⟨by simp (disch:=omega) only [Ag,sF,↓reduceIte],by simp (disch:=omega) only [Ag,sF,↓reduceIte]⟩ hval hli) (fun q hq=>by simp (disch:=omega) only []; exact Ax rfl q (by omega)) (by decide) (D1 _ _) ?_ ; rw [← hw] ; simp (disch:=omega) only [Af,Ag,Az,amL,amT,sA,sB,sF,↓reduceIte])
                   exact ⟨rfl,by simp (disch:=omega) only [A2,Av,and_self,Af,sF,↓reduceIte],by simp (disch:=omega) only [Ba,A4,Ag,amL,sF,↓reduceIte] ; try exact congrArg AO.cells hpc⟩
               · refine D0 (rem':=[2,3,4,5,6,8,9]) rfl rfl ?_
                 simp (disch:=omega) only [and_self,Ag,amL,amT,sA,sB,sF,↓reduceIte]
                 refine D3 (by kernel_rfl) ?_
                 show EL _ _ _ _ [_,_,_,_,_,_,_] _ _
                 simp (disch:=omega) only [Af,Ag,amL,amT,sA,sB,sF,sG,↓reduceIte]
                 try (refine A1 [(2,.ptr 2 0),(3,.ptr 3 0),(4,C3),(5,i64 0),(72,avT t),(10,.ptr 10 0)] (by decide) (Dp (b:=b) (bd:=99)) (Ax rfl) (by decide) (fun res os2 hR hcl2 hlv2=>?_) ; obtain ⟨rfl,rfl⟩:=hR ; simp (disch:=omega) only [Bh,Bl,ne_eq,Ad,A2,Av,Ba,A4,and_self,Af,Ag,Az,Bv,B3,Bk,Bj,B1,Kl,Jp,Lp,Int.sub_zero,Int.toNat_natCast,Ca,ld2,B9,amL,amT,sA,sB,sC,sD,sE,sF,sG,sH,sI,sJ,sK,sL,sM,sN,sO,↓reduceIte,reduceCtorEq])
                 try (refine Cb (bd:=300) (by decide) (Ek (m:=103) ⟨by simp (disch:=omega) only [Ag,sF,↓reduceIte],by simp (disch:=omega) only [Ag,sF,↓reduceIte]⟩ hval hli) (fun q hq=>by simp (disch:=omega) only []; exact Ax rfl q (by omega)) (by decide) (D1 _ _) ?_ ; rw [← hw] ; simp (disch:=omega) only [Af,Ag,Az,amL,amT,sA,sB,sF,↓reduceIte])
                 exact ⟨rfl,by simp (disch:=omega) only [A2,Av,and_self,Af,sF,↓reduceIte],by simp (disch:=omega) only [Ba,A4,Ag,amL,sF,↓reduceIte] ; try exact congrArg AO.cells hpc⟩
             · refine D0 (rem':=[1,3,4,5,6,7,8,9]) rfl rfl ?_
               simp (disch:=omega) only [Af,Ag,amL,amT,sA,sB,sF,↓reduceIte]
               refine Fi (ls:=[1,7]) rfl ⟨?_,?_,trivial⟩
               · refine D0 (rem':=[3,4,5,6,7,8,9]) rfl rfl ?_
                 simp (disch:=omega) only [Af,amL,sF,sG,↓reduceIte]
                 refine A1 [(2,.ptr 2 0),(3,.ptr 3 0),(4,C3),(5,i64 0),(72,avT t)] (by decide) (Dp (b:=b) (bd:=99)) (Ax rfl) (by decide) (fun res os2 hR hcl2 hlv2=>?_)
                 obtain ⟨rfl,rfl⟩:=hR
                 simp (disch:=omega) only [A2,Av,and_self,Af,Ag,amL,sB,sF,↓reduceIte]
                 refine Fi (ls:=[3,7]) rfl ⟨?_,?_,trivial⟩
                 · refine D0 (rem':=[4,5,6,7,8,9]) rfl rfl ?_
                   simp (disch:=omega) only [Af,amL,sF,sG,↓reduceIte]
                   (refine Cb (bd:=300) (by decide) (Ek (m:=103) ⟨by simp (disch:=omega) only [Ag,↓reduceIte],by simp (disch:=omega) only [Ag,sF,↓reduceIte]⟩ hval hli) (fun q hq=>by simp (disch:=omega) only []; exact Ax rfl q (by omega)) (by decide) (D1 _ _) ?_ ; rw [← hw] ; simp (disch:=omega) only [amL])
                   refine D3 (by kernel_rfl) ?_
                   show EL _ _ _ _ [_,_,_,_,_,_] _ _
                   simp (disch:=omega) only [and_self,Af,Ag,Az,amL,amT,sA,sB,sF,↓reduceIte]
                   try (refine A1 [(2,.ptr 2 0),(3,.ptr 3 0),(4,C3),(5,i64 0),(72,avT t),(10,.ptr 10 0)] (by decide) (Dp (b:=b) (bd:=99)) (Ax rfl) (by decide) (fun res os2 hR hcl2 hlv2=>?_) ; obtain ⟨rfl,rfl⟩:=hR ; simp (disch:=omega) only [Bh,Bl,ne_eq,Ad,A2,Av,Ba,A4,and_self,Af,Ag,Az,Bv,B3,Bk,Bj,B1,Kl,Jp,Lp,Int.sub_zero,Int.toNat_natCast,Ca,ld2,B9,amL,amT,sA,sB,sC,sD,sE,sF,sG,sH,sI,sJ,sK,sL,sM,sN,sO,↓reduceIte,reduceCtorEq])
                   try (refine Cb (bd:=300) (by decide) (Ek (m:=103) ⟨by simp (disch:=omega) only [Bh,Bl,ne_eq,Ad,A2,Av,Ba,A4,and_self,Af,Ag,Az,Bv,B3,Bk,Bj,B1,Kl,Jp,Lp,Int.sub_zero,Int.toNat_natCast,Ca,ld2,B9,amL,amT,sA,sB,sC,sD,sE,sF,sG,sH,sI,sJ,sK,sL,sM,sN,sO,↓reduceIte,reduceCtorEq],by simp (disch:=omega) only [Bh,Bl,ne_eq,Ad,A2,Av,Ba,A4,and_self,Af,Ag,Az,Bv,B3,Bk,Bj,B1,Kl,Jp,Lp,Int.sub_zero,Int.toNat_natCast,Ca,ld2,B9,amL,amT,sA,sB,sC,sD,sE,sF,sG,sH,sI,sJ,sK,sL,sM,sN,sO,↓reduceIte,reduceCtorEq]⟩ hval hli) (fun q hq=>by simp (disch:=omega) only [Ad]; exact Ax rfl q (by omega)) (by decide) (D1 _ _) ?_ ; rw [← hw] ; simp (disch:=omega) only [Bh,Bl,ne_eq,Ad,A2,Av,Ba,A4,and_self,Af,Ag,Az,Bv,B3,Bk,Bj,B1,Kl,Jp,Lp,Int.sub_zero,Int.toNat_natCast,Ca,ld2,B9,amL,amT,sA,sB,sC,sD,sE,sF,sG,sH,sI,sJ,sK,sL,sM,sN,sO,↓reduceIte,reduceCtorEq])
                   exact ⟨rfl,by simp (disch:=omega) only [A2,Av,and_self,Af,sF,↓reduceIte],by simp (disch:=omega) only [Ba,A4,Ag,amL,sF,↓reduceIte] ; try exact congrArg AO.cells hpc⟩
                 · refine D0 (rem':=[3,4,5,6,8,9]) rfl rfl ?_
                   simp (disch:=omega) only [and_self,Ag,amL,amT,sA,sB,sF,↓reduceIte]
                   refine D3 (by kernel_rfl) ?_
                   show EL _ _ _ _ [_,_,_,_,_,_] _ _
                   simp (disch:=omega) only [Af,amL,sF,sG,↓reduceIte]
                   try (refine A1 [(2,.ptr 2 0),(3,.ptr 3 0),(4,C3),(5,i64 0),(72,avT t),(10,.ptr 10 0)] (by decide) (Dp (b:=b) (bd:=99)) (Ax rfl) (by decide) (fun res os2 hR hcl2 hlv2=>?_) ; obtain ⟨rfl,rfl⟩:=hR ; simp (disch:=omega) only [Bh,Bl,ne_eq,Ad,A2,Av,Ba,A4,and_self,Af,Ag,Az,Bv,B3,Bk,Bj,B1,Kl,Jp,Lp,Int.sub_zero,Int.toNat_natCast,Ca,ld2,B9,amL,amT,sA,sB,sC,sD,sE,sF,sG,sH,sI,sJ,sK,sL,sM,sN,sO,↓reduceIte,reduceCtorEq])
                   try (refine Cb (bd:=300) (by decide) (Ek (m:=103) ⟨by simp (disch:=omega) only [Ag,sF,↓reduceIte],by simp (disch:=omega) only [Ag,sF,↓reduceIte]⟩ hval hli) (fun q hq=>by simp (disch:=omega) only []; exact Ax rfl q (by omega)) (by decide) (D1 _ _) ?_ ; rw [← hw] ; simp (disch:=omega) only [Af,Ag,Az,amL,amT,sA,sB,sF,↓reduceIte])
                   exact ⟨rfl,by simp (disch:=omega) only [A2,Av,and_self,Af,sF,↓reduceIte],by simp (disch:=omega) only [Ba,A4,Ag,amL,sF,↓reduceIte] ; try exact congrArg AO.cells hpc⟩
               · refine D0 (rem':=[1,3,4,5,6,8,9]) rfl rfl ?_
                 simp (disch:=omega) only [and_self,Ag,amL,amT,sA,sB,sF,↓reduceIte]
                 refine D3 (by kernel_rfl) ?_
                 show EL _ _ _ _ [_,_,_,_,_,_,_] _ _
                 simp (disch:=omega) only [Af,amL,sF,sG,↓reduceIte]
                 try (refine A1 [(2,.ptr 2 0),(3,.ptr 3 0),(4,C3),(5,i64 0),(72,avT t),(10,.ptr 10 0)] (by decide) (Dp (b:=b) (bd:=99)) (Ax rfl) (by decide) (fun res os2 hR hcl2 hlv2=>?_) ; obtain ⟨rfl,rfl⟩:=hR ; simp (disch:=omega) only [A2,Av,and_self,Af,Ag,amL,sB,sF,sG,↓reduceIte])
                 try (refine Cb (bd:=300) (by decide) (Ek (m:=103) ⟨by simp (disch:=omega) only [Ag,↓reduceIte],by simp (disch:=omega) only [Ag,sF,↓reduceIte]⟩ hval hli) (fun q hq=>by simp (disch:=omega) only []; exact Ax rfl q (by omega)) (by decide) (D1 _ _) ?_ ; rw [← hw] ; simp (disch:=omega) only [Af,Ag,Az,amL,amT,sA,sB,sF,↓reduceIte])
                 exact ⟨rfl,by simp (disch:=omega) only [A2,Av,and_self,Af,sF,↓reduceIte],by simp (disch:=omega) only [Ba,A4,Ag,amL,sF,↓reduceIte] ; try exact congrArg AO.cells hpc⟩
             · refine D0 (rem':=[1,2,3,4,5,6,8,9]) rfl rfl ?_
               simp (disch:=omega) only [and_self,Ag,amL,amT,sA,sB,sF,↓reduceIte]
               refine Fi (ls:=[1,2]) rfl ⟨?_,?_,trivial⟩
               · refine D0 (rem':=[2,3,4,5,6,8,9]) rfl rfl ?_
                 simp (disch:=omega) only [Af,amL,sF,sG,↓reduceIte]
                 refine A1 [(2,.ptr 2 0),(3,.ptr 3 0),(4,C3),(5,i64 0),(10,.ptr 10 0)] (by decide) (Dp (b:=b) (bd:=99)) (Ax rfl) (by decide) (fun res os2 hR hcl2 hlv2=>?_)
                 obtain ⟨rfl,rfl⟩:=hR
                 simp (disch:=omega) only [A2,Av,and_self,Af,Ag,amL,sB,sF,↓reduceIte]
                 refine D3 (by kernel_rfl) ?_
                 show EL _ _ _ _ [_,_,_,_,_,_,_] _ _
                 simp (disch:=omega) only [Af,Ag,amL,amT,sA,sB,sF,sG,↓reduceIte]
                 try (refine A1 [(2,.ptr 2 0),(3,.ptr 3 0),(4,C3),(5,i64 0),(72,avT t),(10,.ptr 10 0)] (by decide) (Dp (b:=b) (bd:=99)) (Ax rfl) (by decide) (fun res os2 hR hcl2 hlv2=>?_) ; obtain ⟨rfl,rfl⟩:=hR ; simp (disch:=omega) only [Bh,Bl,ne_eq,Ad,A2,Av,Ba,A4,and_self,Af,Ag,Az,Bv,B3,Bk,Bj,B1,Kl,Jp,Lp,Int.sub_zero,Int.toNat_natCast,Ca,ld2,B9,amL,amT,sA,sB,sC,sD,sE,sF,sG,sH,sI,sJ,sK,sL,sM,sN,sO,↓reduceIte,reduceCtorEq])
                 try (refine Cb (bd:=300) (by decide) (Ek (m:=103) ⟨by simp (disch:=omega) only [Ag,↓reduceIte],by simp (disch:=omega) only [Ag,sF,↓reduceIte]⟩ hval hli) (fun q hq=>by simp (disch:=omega) only []; exact Ax rfl q (by omega)) (by decide) (D1 _ _) ?_ ; rw [← hw] ; simp (disch:=omega) only [Af,Ag,Az,amL,amT,sA,sB,sF,↓reduceIte])
                 exact ⟨rfl,by simp (disch:=omega) only [A2,Av,and_self,Af,sF,↓reduceIte],by simp (disch:=omega) only [Ba,A4,Ag,amL,sF,↓reduceIte] ; try exact congrArg AO.cells hpc⟩
               · refine D0 (rem':=[1,3,4,5,6,8,9]) rfl rfl ?_
                 simp (disch:=omega) only [Af,Ag,amL,amT,sA,sB,sF,↓reduceIte]
                 refine D3 (by kernel_rfl) ?_
                 show EL _ _ _ _ [_,_,_,_,_,_,_] _ _
                 simp (disch:=omega) only [Af,amL,sF,sG,↓reduceIte]
                 try (refine A1 [(2,.ptr 2 0),(3,.ptr 3 0),(4,C3),(5,i64 0),(72,avT t),(10,.ptr 10 0)] (by decide) (Dp (b:=b) (bd:=99)) (Ax rfl) (by decide) (fun res os2 hR hcl2 hlv2=>?_) ; obtain ⟨rfl,rfl⟩:=hR ; simp (disch:=omega) only [A2,Av,and_self,Af,Ag,amL,sB,sF,sG,↓reduceIte])
                 try (refine Cb (bd:=300) (by decide) (Ek (m:=103) ⟨by simp (disch:=omega) only [Ag,↓reduceIte],by simp (disch:=omega) only [Ag,sF,↓reduceIte]⟩ hval hli) (fun q hq=>by simp (disch:=omega) only []; exact Ax rfl q (by omega)) (by decide) (D1 _ _) ?_ ; rw [← hw] ; simp (disch:=omega) only [Af,Ag,Az,amL,amT,sA,sB,sF,↓reduceIte])
                 exact ⟨rfl,by simp (disch:=omega) only [A2,Av,and_self,Af,sF,↓reduceIte],by simp (disch:=omega) only [Ba,A4,Ag,amL,sF,↓reduceIte] ; try exact congrArg AO.cells hpc⟩
           · refine D0 (rem':=[0,1,3,4,5,6,7,8,9]) rfl rfl ?_
             simp (disch:=omega) only [Af,Ag,amL,amT,sA,sB,sF,↓reduceIte]
             refine Fi (ls:=[0,7]) rfl ⟨?_,?_,trivial⟩
             · refine D0 (rem':=[1,3,4,5,6,7,8,9]) rfl rfl ?_
               simp (disch:=omega) only [Af,Ag,amL,amT,sA,sB,sF,↓reduceIte]
               refine Fi (ls:=[1,7]) rfl ⟨?_,?_,trivial⟩
               · refine D0 (rem':=[3,4,5,6,7,8,9]) rfl rfl ?_
                 simp (disch:=omega) only [Af,amL,sG,↓reduceIte]
                 refine A1 [(2,.ptr 2 0),(3,.ptr 3 0),(4,C3),(5,i64 0),(72,avT t)] (by decide) (Dp (b:=b) (bd:=99)) (Ax rfl) (by decide) (fun res os2 hR hcl2 hlv2=>?_)
                 obtain ⟨rfl,rfl⟩:=hR
                 simp (disch:=omega) only [A2,Av,and_self,Af,Ag,amL,sB,sF,↓reduceIte]
                 refine Fi (ls:=[3,7]) rfl ⟨?_,?_,trivial⟩
                 · refine D0 (rem':=[4,5,6,7,8,9]) rfl rfl ?_
                   simp (disch:=omega) only [Af,amL,sF,sG,↓reduceIte]
                   (refine Cb (bd:=300) (by decide) (Ek (m:=103) ⟨by simp (disch:=omega) only [Ag,↓reduceIte],by simp (disch:=omega) only [Ag,sF,↓reduceIte]⟩ hval hli) (fun q hq=>by simp (disch:=omega) only []; exact Ax rfl q (by omega)) (by decide) (D1 _ _) ?_ ; rw [← hw] ; simp (disch:=omega) only [amL])
                   refine D3 (by kernel_rfl) ?_
                   show EL _ _ _ _ [_,_,_,_,_,_] _ _
                   simp (disch:=omega) only [and_self,Af,Ag,Az,amL,amT,sA,sB,sF,↓reduceIte]
                   try (refine A1 [(2,.ptr 2 0),(3,.ptr 3 0),(4,C3),(5,i64 0),(72,avT t),(10,.ptr 10 0)] (by decide) (Dp (b:=b) (bd:=99)) (Ax rfl) (by decide) (fun res os2 hR hcl2 hlv2=>?_) ; obtain ⟨rfl,rfl⟩:=hR ; simp (disch:=omega) only [Bh,Bl,ne_eq,Ad,A2,Av,Ba,A4,and_self,Af,Ag,Az,Bv,B3,Bk,Bj,B1,Kl,Jp,Lp,Int.sub_zero,Int.toNat_natCast,Ca,ld2,B9,amL,amT,sA,sB,sC,sD,sE,sF,sG,sH,sI,sJ,sK,sL,sM,sN,sO,↓reduceIte,reduceCtorEq])
                   try (refine Cb (bd:=300) (by decide) (Ek (m:=103) ⟨by simp (disch:=omega) only [Bh,Bl,ne_eq,Ad,A2,Av,Ba,A4,and_self,Af,Ag,Az,Bv,B3,Bk,Bj,B1,Kl,Jp,Lp,Int.sub_zero,Int.toNat_natCast,Ca,ld2,B9,amL,amT,sA,sB,sC,sD,sE,sF,sG,sH,sI,sJ,sK,sL,sM,sN,sO,↓reduceIte,reduceCtorEq],by simp (disch:=omega) only [Bh,Bl,ne_eq,Ad,A2,Av,Ba,A4,and_self,Af,Ag,Az,Bv,B3,Bk,Bj,B1,Kl,Jp,Lp,Int.sub_zero,Int.toNat_natCast,Ca,ld2,B9,amL,amT,sA,sB,sC,sD,sE,sF,sG,sH,sI,sJ,sK,sL,sM,sN,sO,↓reduceIte,reduceCtorEq]⟩ hval hli) (fun q hq=>by simp (disch:=omega) only [Ad]; exact Ax rfl q (by omega)) (by decide) (D1 _ _) ?_ ; rw [← hw] ; simp (disch:=omega) only [Bh,Bl,ne_eq,Ad,A2,Av,Ba,A4,and_self,Af,Ag,Az,Bv,B3,Bk,Bj,B1,Kl,Jp,Lp,Int.sub_zero,Int.toNat_natCast,Ca,ld2,B9,amL,amT,sA,sB,sC,sD,sE,sF,sG,sH,sI,sJ,sK,sL,sM,sN,sO,↓reduceIte,reduceCtorEq])
                   exact ⟨rfl,by simp (disch:=omega) only [A2,Av,and_self,Af,sF,↓reduceIte],by simp (disch:=omega) only [Ba,A4,Ag,amL,sF,↓reduceIte] ; try exact congrArg AO.cells hpc⟩
                 · refine D0 (rem':=[3,4,5,6,8,9]) rfl rfl ?_
                   simp (disch:=omega) only [and_self,Ag,amL,amT,sA,sB,sF,↓reduceIte]
                   refine D3 (by kernel_rfl) ?_
                   show EL _ _ _ _ [_,_,_,_,_,_] _ _
                   simp (disch:=omega) only [Af,amL,sF,sG,↓reduceIte]
                   try (refine A1 [(2,.ptr 2 0),(3,.ptr 3 0),(4,C3),(5,i64 0),(72,avT t),(10,.ptr 10 0)] (by decide) (Dp (b:=b) (bd:=99)) (Ax rfl) (by decide) (fun res os2 hR hcl2 hlv2=>?_) ; obtain ⟨rfl,rfl⟩:=hR ; simp (disch:=omega) only [Bh,Bl,ne_eq,Ad,A2,Av,Ba,A4,and_self,Af,Ag,Az,Bv,B3,Bk,Bj,B1,Kl,Jp,Lp,Int.sub_zero,Int.toNat_natCast,Ca,ld2,B9,amL,amT,sA,sB,sC,sD,sE,sF,sG,sH,sI,sJ,sK,sL,sM,sN,sO,↓reduceIte,reduceCtorEq])
                   try (refine Cb (bd:=300) (by decide) (Ek (m:=103) ⟨by simp (disch:=omega) only [Ag,sF,↓reduceIte],by simp (disch:=omega) only [Ag,sF,↓reduceIte]⟩ hval hli) (fun q hq=>by simp (disch:=omega) only []; exact Ax rfl q (by omega)) (by decide) (D1 _ _) ?_ ; rw [← hw] ; simp (disch:=omega) only [Af,Ag,Az,amL,amT,sA,sB,sF,↓reduceIte])
                   exact ⟨rfl,by simp (disch:=omega) only [A2,Av,and_self,Af,sF,↓reduceIte],by simp (disch:=omega) only [Ba,A4,Ag,amL,sF,↓reduceIte] ; try exact congrArg AO.cells hpc⟩
               · refine D0 (rem':=[1,3,4,5,6,8,9]) rfl rfl ?_
                 simp (disch:=omega) only [and_self,Ag,amL,amT,sA,sB,sF,↓reduceIte]
                 refine D3 (by kernel_rfl) ?_
                 show EL _ _ _ _ [_,_,_,_,_,_,_] _ _
                 simp (disch:=omega) only [Af,amL,sF,sG,↓reduceIte]
                 try (refine A1 [(2,.ptr 2 0),(3,.ptr 3 0),(4,C3),(5,i64 0),(72,avT t),(10,.ptr 10 0)] (by decide) (Dp (b:=b) (bd:=99)) (Ax rfl) (by decide) (fun res os2 hR hcl2 hlv2=>?_) ; obtain ⟨rfl,rfl⟩:=hR ; simp (disch:=omega) only [A2,Av,and_self,Af,Ag,amL,sB,sF,sG,↓reduceIte])
                 try (refine Cb (bd:=300) (by decide) (Ek (m:=103) ⟨by simp (disch:=omega) only [Ag,↓reduceIte],by simp (disch:=omega) only [Ag,sF,↓reduceIte]⟩ hval hli) (fun q hq=>by simp (disch:=omega) only []; exact Ax rfl q (by omega)) (by decide) (D1 _ _) ?_ ; rw [← hw] ; simp (disch:=omega) only [Af,Ag,Az,amL,amT,sA,sB,sF,↓reduceIte])
                 exact ⟨rfl,by simp (disch:=omega) only [A2,Av,and_self,Af,sF,↓reduceIte],by simp (disch:=omega) only [Ba,A4,Ag,amL,sF,↓reduceIte] ; try exact congrArg AO.cells hpc⟩
             · refine D0 (rem':=[0,1,3,4,5,6,8,9]) rfl rfl ?_
               simp (disch:=omega) only [and_self,Ag,amL,amT,sA,sB,sF,↓reduceIte]
               refine D3 (by kernel_rfl) ?_
               show EL _ _ _ _ [_,_,_,_,_,_,_,_] _ _
               simp (disch:=omega) only [Af,Ag,amL,amT,sA,sB,sF,sG,↓reduceIte]
               try (refine A1 [(2,.ptr 2 0),(3,.ptr 3 0),(4,C3),(5,i64 0),(72,avT t),(10,.ptr 10 0)] (by decide) (Dp (b:=b) (bd:=99)) (Ax rfl) (by decide) (fun res os2 hR hcl2 hlv2=>?_) ; obtain ⟨rfl,rfl⟩:=hR ; simp (disch:=omega) only [A2,Av,and_self,Af,Ag,amL,sB,sF,sG,↓reduceIte])
               try (refine Cb (bd:=300) (by decide) (Ek (m:=103) ⟨by simp (disch:=omega) only [Ag,↓reduceIte],by simp (disch:=omega) only [Ag,sF,↓reduceIte]⟩ hval hli) (fun q hq=>by simp (disch:=omega) only []; exact Ax rfl q (by omega)) (by decide) (D1 _ _) ?_ ; rw [← hw] ; simp (disch:=omega) only [Af,Ag,Az,amL,amT,sA,sB,sF,↓reduceIte])
               exact ⟨rfl,by simp (disch:=omega) only [A2,Av,and_self,Af,sF,↓reduceIte],by simp (disch:=omega) only [Ba,A4,Ag,amL,sF,↓reduceIte] ; try exact congrArg AO.cells hpc⟩
           · refine D0 (rem':=[0,1,2,3,4,5,6,8,9]) rfl rfl ?_
             simp (disch:=omega) only [and_self,Ag,amL,amT,sA,sB,sF,↓reduceIte]
             refine Fi (ls:=[0,2]) rfl ⟨?_,?_,trivial⟩
             · refine D0 (rem':=[1,2,3,4,5,6,8,9]) rfl rfl ?_
               simp (disch:=omega) only [Af,Ag,amL,amT,sA,sB,sF,↓reduceIte]
               refine Fi (ls:=[1,2]) rfl ⟨?_,?_,trivial⟩
               · refine D0 (rem':=[2,3,4,5,6,8,9]) rfl rfl ?_
                 simp (disch:=omega) only [Af,amL,sG,↓reduceIte]
                 refine A1 [(2,.ptr 2 0),(3,.ptr 3 0),(4,C3),(5,i64 0),(10,.ptr 10 0)] (by decide) (Dp (b:=b) (bd:=99)) (Ax rfl) (by decide) (fun res os2 hR hcl2 hlv2=>?_)
                 obtain ⟨rfl,rfl⟩:=hR
                 simp (disch:=omega) only [A2,Av,and_self,Af,Ag,amL,sB,sF,↓reduceIte]
                 refine D3 (by kernel_rfl) ?_
                 show EL _ _ _ _ [_,_,_,_,_,_,_] _ _
                 simp (disch:=omega) only [Af,Ag,amL,amT,sA,sB,sF,sG,↓reduceIte]
                 try (refine A1 [(2,.ptr 2 0),(3,.ptr 3 0),(4,C3),(5,i64 0),(72,avT t),(10,.ptr 10 0)] (by decide) (Dp (b:=b) (bd:=99)) (Ax rfl) (by decide) (fun res os2 hR hcl2 hlv2=>?_) ; obtain ⟨rfl,rfl⟩:=hR ; simp (disch:=omega) only [Bh,Bl,ne_eq,Ad,A2,Av,Ba,A4,and_self,Af,Ag,Az,Bv,B3,Bk,Bj,B1,Kl,Jp,Lp,Int.sub_zero,Int.toNat_natCast,Ca,ld2,B9,amL,amT,sA,sB,sC,sD,sE,sF,sG,sH,sI,sJ,sK,sL,sM,sN,sO,↓reduceIte,reduceCtorEq])
                 try (refine Cb (bd:=300) (by decide) (Ek (m:=103) ⟨by simp (disch:=omega) only [Ag,↓reduceIte],by simp (disch:=omega) only [Ag,sF,↓reduceIte]⟩ hval hli) (fun q hq=>by simp (disch:=omega) only []; exact Ax rfl q (by omega)) (by decide) (D1 _ _) ?_ ; rw [← hw] ; simp (disch:=omega) only [Af,Ag,Az,amL,amT,sA,sB,sF,↓reduceIte])
                 exact ⟨rfl,by simp (disch:=omega) only [A2,Av,and_self,Af,sF,↓reduceIte],by simp (disch:=omega) only [Ba,A4,Ag,amL,sF,↓reduceIte] ; try exact congrArg AO.cells hpc⟩
               · refine D0 (rem':=[1,3,4,5,6,8,9]) rfl rfl ?_
                 simp (disch:=omega) only [Af,Ag,amL,amT,sA,sB,sF,↓reduceIte]
                 refine D3 (by kernel_rfl) ?_
                 show EL _ _ _ _ [_,_,_,_,_,_,_] _ _
                 simp (disch:=omega) only [Af,amL,sF,sG,↓reduceIte]
                 try (refine A1 [(2,.ptr 2 0),(3,.ptr 3 0),(4,C3),(5,i64 0),(72,avT t),(10,.ptr 10 0)] (by decide) (Dp (b:=b) (bd:=99)) (Ax rfl) (by decide) (fun res os2 hR hcl2 hlv2=>?_) ; obtain ⟨rfl,rfl⟩:=hR ; simp (disch:=omega) only [A2,Av,and_self,Af,Ag,amL,sB,sF,sG,↓reduceIte])
                 try (refine Cb (bd:=300) (by decide) (Ek (m:=103) ⟨by simp (disch:=omega) only [Ag,↓reduceIte],by simp (disch:=omega) only [Ag,sF,↓reduceIte]⟩ hval hli) (fun q hq=>by simp (disch:=omega) only []; exact Ax rfl q (by omega)) (by decide) (D1 _ _) ?_ ; rw [← hw] ; simp (disch:=omega) only [Af,Ag,Az,amL,amT,sA,sB,sF,↓reduceIte])
                 exact ⟨rfl,by simp (disch:=omega) only [A2,Av,and_self,Af,sF,↓reduceIte],by simp (disch:=omega) only [Ba,A4,Ag,amL,sF,↓reduceIte] ; try exact congrArg AO.cells hpc⟩
             · refine D0 (rem':=[0,1,3,4,5,6,8,9]) rfl rfl ?_
               simp (disch:=omega) only [Af,Ag,amL,amT,sA,sB,sF,↓reduceIte]
               refine D3 (by kernel_rfl) ?_
               show EL _ _ _ _ [_,_,_,_,_,_,_,_] _ _
               simp (disch:=omega) only [Af,Ag,amL,amT,sA,sB,sF,sG,↓reduceIte]
               try (refine A1 [(2,.ptr 2 0),(3,.ptr 3 0),(4,C3),(5,i64 0),(72,avT t),(10,.ptr 10 0)] (by decide) (Dp (b:=b) (bd:=99)) (Ax rfl) (by decide) (fun res os2 hR hcl2 hlv2=>?_) ; obtain ⟨rfl,rfl⟩:=hR ; simp (disch:=omega) only [A2,Av,and_self,Af,Ag,amL,sB,sF,sG,↓reduceIte])
               try (refine Cb (bd:=300) (by decide) (Ek (m:=103) ⟨by simp (disch:=omega) only [Ag,↓reduceIte],by simp (disch:=omega) only [Ag,sF,↓reduceIte]⟩ hval hli) (fun q hq=>by simp (disch:=omega) only []; exact Ax rfl q (by omega)) (by decide) (D1 _ _) ?_ ; rw [← hw] ; simp (disch:=omega) only [Af,Ag,Az,amL,amT,sA,sB,sF,↓reduceIte])
               exact ⟨rfl,by simp (disch:=omega) only [A2,Av,and_self,Af,sF,↓reduceIte],by simp (disch:=omega) only [Ba,A4,Ag,amL,sF,↓reduceIte] ; try exact congrArg AO.cells hpc⟩
         refine hK19 _ ?_
         refine Aa fun K20 hK20=>?_
         refine Aa fun K21 hK21=>?_
         refine Ac ?_
         simp (disch:=omega) only [Af,amL,sA,sF,↓reduceIte]
         refine hK21 _ ?_
         refine Aj rfl (fun h=>?_) (fun h=>?_)
         ·first
          | exact Bool.noConfusion h
          |skip
           try simp only [Bool.not_eq_true'] at h
           refine Aa fun K22 hK22=>?_
           refine Ac ?_
           simp (disch:=omega) only [amL,sA]
           refine hK22 _ ?_
           refine Ah ?_
           try simp (disch:=omega) only [Af,amL,sF,↓reduceIte]
           all_goals first | (rw [Dk,if_neg (by assumption)]; done) | (have e9:k=b.vs.length:=(by omega) ; rw [Dk,if_pos hf0,if_pos hli,if_pos hbt,List.take_of_length_le (by simp ; omega),e9,hw] ; done) | (rw [Dk,if_pos hf0,if_pos hli,if_neg (by simpa using h)]; done) | (rw [Dk,if_pos (by omega),if_neg (fun e=>by have:=Dj e; omega)]; done) | (rw [Dk,if_pos (by omega),if_neg (fun e=>by have:=Kn e (k:=k) (by omega); simp_all)]; done) | trace_state
         ·first
          | exact Bool.noConfusion h
          |skip
           try simp only [Bool.not_eq_false'] at h
           refine Ak ?_
           refine hK20 _ ?_
           refine Aa fun K23 hK23=>?_
           refine Ac ?_
           simp (disch:=omega) only [amL,sA]
           refine hK23 _ ?_
           refine Aa fun K24 hK24=>?_
           refine Aa fun K25 hK25=>?_
           refine Ac ?_
           have hbt:(Mo b t).2=true:=by simpa using h
           have hsm:=(hwo hbt).small
           have hv4:=hval.nv
           simp (disch:=omega) only [and_self,Af,Ag,Bv,B3,Bk,Bj,B1,Int.sub_zero,Int.toNat_natCast,amL,amT,sA,sF,sH,sK,sL,sN,↓reduceIte,reduceCtorEq]
           refine hK25 _ ?_
           refine Ap ?_
           refine Po 96 3 12 (by decide) rfl rfl ?_
           refine Be (α:=Nat) (fun k=>⟨T [(2,.ptr 2 0),(12,.own 96 k),(81,.csl 10 0 2 b.vs.length),(82,i64 b.vs.length),(83,i64 (k:Int))],O [(2,.cells (cB b)),(10,.cells (cW w)),(96,.arr 3 ((w.take k).map fun l=>Bb7 (Azh l)))]⟩) (fun k=>b.vs.length - k) (fun k=>k≤b.vs.length) 0 ?_ ?_ (fun k hx26 K26 hK26=>?_)
           · exact Nat.zero_le _
           · refine De ?_ ?_ ?_ ?_ <;> (try simp (disch:=omega) only [A2,Av,Ba,A4,and_self,Af,Ag,amL,sF,sG,↓reduceIte]); all_goals first | rfl | exact Aec _ | trace_state
           have hk:=hx26
           refine Aa fun K27 hK27=>?_
           refine Ac ?_
           simp (disch:=omega) only [Af,amL,amT,sA,sF,↓reduceIte]
           refine hK27 _ ?_
           refine Aa fun K28 hK28=>?_
           refine Aj rfl (fun h=>?_) (fun h=>?_)
           ·first
            | exact Bool.noConfusion h
            |skip
             try simp only [decide_eq_true_eq] at h
             refine Ak ?_
             refine hK28 _ ?_
             refine Aa fun K29 hK29=>?_
             refine Ap ?_
             refine Aa fun K30 hK30=>?_
             refine Ac ?_
             simp (disch:=omega) only [and_self,Af,Ag,Az,Int.toNat_natCast,Ca,amL,amT,sA,sB,sE,sF,↓reduceIte]
             refine hK30 _ ?_
             refine Ce (by kernel_rfl) (by kernel_rfl) ?_
             simp (disch:=omega) only [Af,Ag,amL,amT,sA,sB,sF,sG,↓reduceIte,reduceCtorEq]
             repeat' first | (refine Aw (by kernel_rfl) rfl (Zb (w.getD k default) (hsm k)) (by first | exact .inl rfl | exact .inr (.inl rfl)) ?_ ; simp (disch:=omega) only [and_self,Af,Ag,B9,amL,amT,sA,sB,sC,sE,sF,↓reduceIte,reduceCtorEq])
             refine hK29 _ ?_
             refine Ac ?_
             simp (disch:=omega) only [Af,amL,amT,sA,sF,↓reduceIte]
             refine hK26 (k+1) _ ?_ ?_ (De ?_ ?_ ?_ ?_)
             all_goals (try simp (disch:=omega) only [A2,Av,Ba,A4,and_self,Af,Ag,amL,sF,sG,↓reduceIte])
             all_goals first | omega | exact congrArg (AO.arr 3) (Ab6 default (by omega)) | exact congrArg (AO.arr 3) (Ab6 default (by omega)).symm | exact Aec _ | trace_state
           ·first
            | exact Bool.noConfusion h
            |skip
             try simp only [decide_eq_false_iff_not] at h
             refine Bo ?_
             refine hK24 _ ?_
             refine Aa fun K31 hK31=>?_
             refine Ac ?_
             simp (disch:=omega) only [Af,amL,sA,sF,↓reduceIte]
             refine hK31 _ ?_
             refine Ah ?_
             try simp (disch:=omega) only [Af,Ag,amL,sF,↓reduceIte]
             all_goals first | (rw [Dk,if_neg (by assumption)]; done) | (have e9:k=b.vs.length:=(by omega) ; rw [Dk,if_pos hf0,if_pos hli,if_pos hbt,List.take_of_length_le (by simp ; omega),e9,hw] ; done) | (rw [Dk,if_pos hf0,if_pos hli,if_neg (by simpa using h)]; done) | (rw [Dk,if_pos (by omega),if_neg (fun e=>by have:=Dj e; omega)]; done) | (rw [Dk,if_pos (by omega),if_neg (fun e=>by have:=Kn e (k:=k) (by omega); simp_all)]; done) | trace_state
section
variable {P:Program} {r:RB} {N:Nat} {K:St→Prop} {st:St}
theorem Afb {o:Oper} {t u:TypeId} {e:TypeId} {x:Operand} (ho:o.op=.binOp .eql t x (.const (.slice none 0 0)) u) (hd:∀ k,o.dst=some k→k < N) (ht:(Ab P t).k=.sl e) (hx:ev st.t x=C3) (h:K (st.put o.dst (bl true))):B4 P r N o st K:=by
  intro B S θ M w a Q hs
  refine ⟨fun _ _=>trivial,?_⟩
  rw [Oper.semAt_eq _ _ _ (by rw [ho]; intro c h; cases h)]
  have hv:a.eval x=.slice none 0 0:=by
    have hr:=Am hs x
    rw [hx] at hr
    generalize a.eval x=v at hr
    cases hr with
    | p _ _ hp=>cases hp; rfl
  have hrun:(execOp a.eval o).run P w=.ok (.value (.bool true)) w:=by
    simp only [execOp,ho,hv]
    refine Kx ?_
    simp [Act.eval,eqGuard,binOp,run_equal_slice_nil w t e none 0 0 (D4 ht)]
  rw [hrun]
  exact ⟨_,h,(Adv.put hs hd (.p _ _ (.val _ rfl)) (AV.lives_p _ _)).toM,by cases o.dst <;> rfl⟩
theorem Pe {Q:AEx→St→Prop} {id d0 d1 i:Nat} {t u e ty0 ty1:TypeId} {pos0 pos1:String} {af0 af1:Array Edge} (h0:d0 < N) (h1:d1 < N) (ht:(Ab P t).k=.sl e) (hx:st.t i=C3)
    (h:Q .normal ((st.put (some d0) (st.t i)).put (some d1) (bl true))) :
    AWP P r N (.region id [(⟨some d0,.move (.tmp i),ty0,pos0,af0,none⟩:Oper),⟨some d1,.binOp .eql t (.tmp d0) (.const (.slice none 0 0)) u,ty1,pos1,af1,none⟩].toArray false) st Q:=by
  refine C0 (AL.step (Fh ?_))
  rw [Agq]
  refine ⟨by simpa using h0,AL.step (Afb rfl (fun k hk=>by cases hk; exact h1) ht (x:=.tmp d0) ?_ (AL.nil h))⟩
  show (st.put (some d0) (st.t i)).t d0=C3
  have:(st.put (some d0) (st.t i)).t d0=st.t i:=by simp [St.put,upd]
  rw [this]; exact hx
end
theorem Aoz (es:List (List PV)) (hk:(es.all fun c=>decide (c.length=1))=true) (hv:(es.all fun e=>e.all PV.isVal)=true) (hl:es.length < 1000000):H0 Tryz.prog 131 [.p (.sl es)] 1 es:=by
  refine Ki (v:=[]) (q:=[]) (N:=8) (i:=2) Tryz.func131 rfl rfl rfl rfl ?_
  refine Aa fun K1 hK1=>?_
  refine Ac ?_
  simp (disch:=omega) only [amL,sA]
  refine hK1 _ ?_
  refine Aa fun K2 hK2=>?_
  refine Aa fun K3 hK3=>?_
  refine Qu (e:=3) (by decide) (by decide) (by simp only [amT]) rfl (fun b hb=>?_)
  simp (disch:=omega) only [amL,↓reduceIte,reduceCtorEq]
  refine hK3 _ ?_
  refine Aj rfl (fun h=>?_) (fun h=>?_)
  ·first
   | exact Bool.noConfusion h
   |skip
    try simp only [Bool.not_eq_true',decide_eq_true_eq,decide_eq_false_iff_not,Bool.and_eq_true,Bool.not_eq_false',Bool.not_not,decide_not,Bool.not_true,Bool.not_false] at h
    refine Aa fun K4 hK4=>?_
    refine Ac ?_
    simp (disch:=omega) only [amL,sA]
    refine hK4 _ ?_
    refine Ah ?_
    try simp (disch:=omega) only [Du,amL,↓reduceIte]
    first | ((have e:es=[]:=by have:=hb h; simpa using this); subst e; rfl) | exact Kz rfl (by simp) hv | trace_state
  ·first
   | exact Bool.noConfusion h
   |skip
    try simp only [Bool.not_eq_true',decide_eq_true_eq,decide_eq_false_iff_not,Bool.and_eq_true,Bool.not_eq_false',Bool.not_not,decide_not,Bool.not_true,Bool.not_false] at h
    refine Ak ?_
    refine hK2 _ ?_
    refine Aa fun K5 hK5=>?_
    refine Ac ?_
    simp (disch:=omega) only [hk,amL,amT,sA,sF,↓reduceIte,reduceCtorEq]
    refine hK5 _ ?_
    refine Ah ?_
    try simp (disch:=omega) only [Du,amL,↓reduceIte]
    first | ((have e:es=[]:=by have:=hb h; simpa using this); subst e; rfl) | exact Kz rfl (by simp) hv | trace_state
theorem Aco (es:List (List PV)) (hk:(es.all fun c=>decide (c.length=5))=true) (hv:(es.all fun e=>e.all PV.isVal)=true) (hl:es.length < 1000000):H0 Tryz.prog 87 [.p (.sl es)] 5 es:=by
  refine Ki (v:=[]) (q:=[]) (N:=8) (i:=2) Tryz.func87 rfl rfl rfl rfl ?_
  refine Aa fun K1 hK1=>?_
  refine Ac ?_
  simp (disch:=omega) only [amL,sA]
  refine hK1 _ ?_
  refine Aa fun K2 hK2=>?_
  refine Aa fun K3 hK3=>?_
  refine Qu (e:=135) (by decide) (by decide) (by simp only [amT]) rfl (fun b hb=>?_)
  simp (disch:=omega) only [amL,↓reduceIte,reduceCtorEq]
  refine hK3 _ ?_
  refine Aj rfl (fun h=>?_) (fun h=>?_)
  ·first
   | exact Bool.noConfusion h
   |skip
    try simp only [Bool.not_eq_true',decide_eq_true_eq,decide_eq_false_iff_not,Bool.and_eq_true,Bool.not_eq_false',Bool.not_not,decide_not,Bool.not_true,Bool.not_false] at h
    refine Aa fun K4 hK4=>?_
    refine Ac ?_
    simp (disch:=omega) only [amL,sA]
    refine hK4 _ ?_
    refine Ah ?_
    try simp (disch:=omega) only [Du,amL,↓reduceIte]
    first | ((have e:es=[]:=by have:=hb h; simpa using this); subst e; rfl) | exact Kz rfl (by simp) hv | trace_state
  ·first
   | exact Bool.noConfusion h
   |skip
    try simp only [Bool.not_eq_true',decide_eq_true_eq,decide_eq_false_iff_not,Bool.and_eq_true,Bool.not_eq_false',Bool.not_not,decide_not,Bool.not_true,Bool.not_false] at h
    refine Ak ?_
    refine hK2 _ ?_
    refine Aa fun K5 hK5=>?_
    refine Ac ?_
    simp (disch:=omega) only [hk,amL,amT,sA,sB,sF,↓reduceIte,reduceCtorEq]
    refine hK5 _ ?_
    refine Ah ?_
    try simp (disch:=omega) only [Du,amL,↓reduceIte]
    first | ((have e:es=[]:=by have:=hb h; simpa using this); subst e; rfl) | exact Kz rfl (by simp) hv | trace_state
theorem Akc:H0 Tryz.prog 131 [C3] 1 []:=by
  refine Ki (v:=[]) (q:=[]) (N:=8) (i:=2) Tryz.func131 rfl rfl rfl rfl ?_
  refine Aa fun K1 hK1=>?_
  refine Ac ?_
  simp (disch:=omega) only [amL,sA]
  refine hK1 _ ?_
  refine Aa fun K2 hK2=>?_
  refine Aa fun K3 hK3=>?_
  refine Pe (e:=3) (by decide) (by decide) (by simp only [amT]) rfl ?_
  simp (disch:=omega) only [amL,↓reduceIte,reduceCtorEq]
  refine hK3 _ ?_
  refine Aj rfl (fun h=>?_) (fun h=>?_)
  ·first
   | exact Bool.noConfusion h
   |skip
    try simp only [] at h
    refine Aa fun K4 hK4=>?_
    refine Ac ?_
    simp (disch:=omega) only [amL,sA]
    refine hK4 _ ?_
    refine Ah ?_
    try simp (disch:=omega) only [Du,amL,↓reduceIte]
    first | rfl | trace_state
  ·first
   | exact Bool.noConfusion h
   |skip
    try simp only [Bool.not_eq_true',decide_eq_true_eq,decide_eq_false_iff_not,Bool.and_eq_true,Bool.not_eq_false',Bool.not_not,decide_not,Bool.not_true,Bool.not_false] at h
    refine Ak ?_
    refine hK2 _ ?_
    refine Aa fun K5 hK5=>?_
    refine Ac ?_
    simp (disch:=omega) only [Jv,Du,amL,amT,sA,sB,sC,sD,sE,sF,sG,sH,sI,sJ,sK,sL,sM,sN,sO,↓reduceIte,reduceCtorEq]
    refine hK5 _ ?_
    refine Ah ?_
    try simp (disch:=omega) only [Jv,Du,amL,amT,sA,sB,sC,sD,sE,sF,sG,sH,sI,sJ,sK,sL,sM,sN,sO,↓reduceIte,reduceCtorEq]
    first | rfl | trace_state
theorem Aiq:H0 Tryz.prog 87 [C3] 5 []:=by
  refine Ki (v:=[]) (q:=[]) (N:=8) (i:=2) Tryz.func87 rfl rfl rfl rfl ?_
  refine Aa fun K1 hK1=>?_
  refine Ac ?_
  simp (disch:=omega) only [amL,sA]
  refine hK1 _ ?_
  refine Aa fun K2 hK2=>?_
  refine Aa fun K3 hK3=>?_
  refine Pe (e:=135) (by decide) (by decide) (by simp only [amT]) rfl ?_
  simp (disch:=omega) only [amL,↓reduceIte,reduceCtorEq]
  refine hK3 _ ?_
  refine Aj rfl (fun h=>?_) (fun h=>?_)
  ·first
   | exact Bool.noConfusion h
   |skip
    try simp only [] at h
    refine Aa fun K4 hK4=>?_
    refine Ac ?_
    simp (disch:=omega) only [amL,sA]
    refine hK4 _ ?_
    refine Ah ?_
    try simp (disch:=omega) only [Du,amL,↓reduceIte]
    first | rfl | trace_state
  ·first
   | exact Bool.noConfusion h
   |skip
    try simp only [Bool.not_eq_true',decide_eq_true_eq,decide_eq_false_iff_not,Bool.and_eq_true,Bool.not_eq_false',Bool.not_not,decide_not,Bool.not_true,Bool.not_false] at h
    refine Ak ?_
    refine hK2 _ ?_
    refine Aa fun K5 hK5=>?_
    refine Ac ?_
    simp (disch:=omega) only [Jv,Du,amL,amT,sA,sB,sC,sD,sE,sF,sG,sH,sI,sJ,sK,sL,sM,sN,sO,↓reduceIte,reduceCtorEq]
    refine hK5 _ ?_
    refine Ah ?_
    try simp (disch:=omega) only [Jv,Du,amL,amT,sA,sB,sC,sD,sE,sF,sG,sH,sI,sJ,sK,sL,sM,sN,sO,↓reduceIte,reduceCtorEq]
    first | rfl | trace_state
end AM.Try
end
/- What closed runs go by: the types, the functions that share objects, slices.Clone, the map, equality. -/
section
namespace AM.Try
open Go AM AM.Wort Go.Proofs
set_option maxRecDepth 100000
def Ayq:List (Option TI)→Nat→Option TI
 | [],_=>none
 | x :: _,0=>x
 | _ :: l,i+1=>Ayq l i
def Azk:List (Option TI):=[none,some ⟨.other,1,8,[.nilFunc]⟩,some ⟨.int .i64,1,8,[.int .i64 0]⟩,some ⟨.int .i64,1,8,[.int .i64 0]⟩,some ⟨.bool,1,1,[.bool false]⟩,some ⟨.int .u8,1,1,[.int .u8 0]⟩,some ⟨.int .u8,1,1,[.int .u8 0]⟩,some ⟨.struct [(0,2),(1,3),(2,4),(3,6)],4,24,[.int .i64 0,.int .i64 0,.bool false,.int .u8 0]⟩,some ⟨.struct [(0,2),(1,3),(2,4),(3,6)],4,24,[.int .i64 0,.int .i64 0,.bool false,.int .u8 0]⟩,none,none,none,some ⟨.int .u64,1,8,[.int .u64 0]⟩,none,none,some ⟨.other,1,8,[.pointer none]⟩,some ⟨.other,1,8,[.pointer none]⟩,some ⟨.other,1,8,[.pointer none]⟩,some ⟨.struct [(0,17)],1,8,[.pointer none]⟩,some ⟨.struct [(0,17)],1,8,[.pointer none]⟩,some ⟨.other,1,16,[.nilIface]⟩,some ⟨.int .i32,1,4,[.int .i32 0]⟩,some ⟨.sl 92,1,24,[.slice none 0 0]⟩,some ⟨.sl 94,1,24,[.slice none 0 0]⟩,some ⟨.struct [(0,22),(1,23)],2,48,[.slice none 0 0,.slice none 0 0]⟩,some ⟨.struct [(0,22),(1,23)],2,48,[.slice none 0 0,.slice none 0 0]⟩,some ⟨.sl 3,1,24,[.slice none 0 0]⟩,some ⟨.struct [(0,26),(1,26),(2,26)],3,72,[.slice none 0 0,.slice none 0 0,.slice none 0 0]⟩,some ⟨.struct [(0,26),(1,26),(2,26)],3,72,[.slice none 0 0,.slice none 0 0,.slice none 0 0]⟩,some ⟨.other,1,8,[.nilFunc]⟩,some ⟨.other,1,8,[.nilFunc]⟩,some ⟨.sl 90,1,24,[.slice none 0 0]⟩,some ⟨.int .i64,1,8,[.int .i64 0]⟩,none,some ⟨.other,1,8,[.nilFunc]⟩,some ⟨.sl 128,1,24,[.slice none 0 0]⟩,some ⟨.sl 135,1,24,[.slice none 0 0]⟩,some ⟨.struct [(0,35),(1,36)],2,48,[.slice none 0 0,.slice none 0 0]⟩,some ⟨.struct [(0,35),(1,36)],2,48,[.slice none 0 0,.slice none 0 0]⟩,some ⟨.other,1,8,[.nilFunc]⟩,some ⟨.struct [(0,26),(1,26),(2,26)],3,72,[.slice none 0 0,.slice none 0 0,.slice none 0 0]⟩,some ⟨.other,1,8,[.nilFunc]⟩,some ⟨.other,1,8,[.nilFunc]⟩,some ⟨.other,1,8,[.nilFunc]⟩,some ⟨.sl 137,1,24,[.slice none 0 0]⟩,none,some ⟨.other,1,8,[.nilFunc]⟩,some ⟨.other,1,8,[.nilFunc]⟩,some ⟨.other,1,8,[.nilFunc]⟩,some ⟨.sl 60,1,24,[.slice none 0 0]⟩,none,some ⟨.other,1,8,[.nilFunc]⟩,some ⟨.sl 44,1,24,[.slice none 0 0]⟩,some ⟨.other,1,8,[.nilFunc]⟩,some ⟨.struct [(0,3),(1,3)],2,16,[.int .i64 0,.int .i64 0]⟩,some ⟨.struct [(0,3),(1,3)],2,16,[.int .i64 0,.int .i64 0]⟩,none,some ⟨.other,1,8,[.nilFunc]⟩,some ⟨.struct [(0,3),(1,3)],2,16,[.int .i64 0,.int .i64 0]⟩,some ⟨.struct [(0,58),(2,58),(4,58)],6,48,[.int .i64 0,.int .i64 0,.int .i64 0,.int .i64 0,.int .i64 0,.int .i64 0]⟩,some ⟨.struct [(0,58),(2,58),(4,58)],6,48,[.int .i64 0,.int .i64 0,.int .i64 0,.int .i64 0,.int .i64 0,.int .i64 0]⟩,some ⟨.other,1,8,[.nilFunc]⟩,some ⟨.other,1,8,[.nilFunc]⟩,some ⟨.sl 70,1,24,[.slice none 0 0]⟩,none,some ⟨.other,1,8,[.nilFunc]⟩,some ⟨.sl 103,1,24,[.slice none 0 0]⟩,some ⟨.other,1,8,[.nilFunc]⟩,some ⟨.other,1,8,[.nilFunc]⟩,some ⟨.struct [(0,3),(1,55),(3,55)],5,40,[.int .i64 0,.int .i64 0,.int .i64 0,.int .i64 0,.int .i64 0]⟩,some ⟨.struct [(0,3),(1,55),(3,55)],5,40,[.int .i64 0,.int .i64 0,.int .i64 0,.int .i64 0,.int .i64 0]⟩,some ⟨.other,1,8,[.nilFunc]⟩,some ⟨.other,1,8,[.nilFunc]⟩,some ⟨.other,1,8,[.nilFunc]⟩,none,some ⟨.other,1,8,[.nilFunc]⟩,some ⟨.other,1,8,[.nilFunc]⟩,some ⟨.other,1,8,[.nilFunc]⟩,some ⟨.other,1,8,[.nilFunc]⟩,some ⟨.other,1,8,[.nilFunc]⟩,some ⟨.other,1,8,[.nilFunc]⟩,some ⟨.other,1,8,[.nilFunc]⟩,some ⟨.other,1,8,[.nilFunc]⟩,some ⟨.int .u16,1,2,[.int .u16 0]⟩,none,some ⟨.other,1,8,[.nilFunc]⟩,some ⟨.other,1,8,[.nilFunc]⟩,some ⟨.other,1,8,[.nilFunc]⟩,some ⟨.other,1,8,[.nilFunc]⟩,some ⟨.struct [(0,3),(1,3),(2,3)],3,24,[.int .i64 0,.int .i64 0,.int .i64 0]⟩,some ⟨.struct [(0,3),(1,3),(2,3)],3,24,[.int .i64 0,.int .i64 0,.int .i64 0]⟩,some ⟨.struct [(0,55),(2,55),(4,3)],5,40,[.int .i64 0,.int .i64 0,.int .i64 0,.int .i64 0,.int .i64 0]⟩,some ⟨.struct [(0,55),(2,55),(4,3)],5,40,[.int .i64 0,.int .i64 0,.int .i64 0,.int .i64 0,.int .i64 0]⟩,some ⟨.struct [(0,3),(1,3),(2,3),(3,55)],5,40,[.int .i64 0,.int .i64 0,.int .i64 0,.int .i64 0,.int .i64 0]⟩,some ⟨.struct [(0,3),(1,3),(2,3),(3,55)],5,40,[.int .i64 0,.int .i64 0,.int .i64 0,.int .i64 0,.int .i64 0]⟩,some ⟨.other,1,8,[.nilFunc]⟩,some ⟨.arr 6 4,6,6,[.bool false,.bool false,.bool false,.bool false,.bool false,.bool false]⟩,some ⟨.other,1,8,[.nilFunc]⟩,none,some ⟨.other,1,8,[.nilFunc]⟩,some ⟨.int .u64,1,8,[.int .u64 0]⟩,some ⟨.other,1,8,[.nilFunc]⟩,some ⟨.struct [(0,3),(1,58),(3,58)],5,40,[.int .i64 0,.int .i64 0,.int .i64 0,.int .i64 0,.int .i64 0]⟩,some ⟨.struct [(0,3),(1,58),(3,58)],5,40,[.int .i64 0,.int .i64 0,.int .i64 0,.int .i64 0,.int .i64 0]⟩,some ⟨.other,1,8,[.nilFunc]⟩,some ⟨.other,1,8,[.nilFunc]⟩,some ⟨.other,1,8,[.nilFunc]⟩,some ⟨.other,1,8,[.nilFunc]⟩,some ⟨.other,1,8,[.nilFunc]⟩,some ⟨.other,1,8,[.nilFunc]⟩,none,some ⟨.other,1,8,[.nilFunc]⟩,some ⟨.other,1,8,[.nilFunc]⟩,some ⟨.sl 58,1,24,[.slice none 0 0]⟩,some ⟨.other,1,8,[.nilFunc]⟩,some ⟨.other,1,8,[.nilFunc]⟩,some ⟨.other,1,8,[.nilFunc]⟩,some ⟨.struct [(0,3),(1,3)],2,16,[.int .i64 0,.int .i64 0]⟩,some ⟨.struct [(0,3),(1,3)],2,16,[.int .i64 0,.int .i64 0]⟩,some ⟨.arr 4 118,8,64,[.int .i64 0,.int .i64 0,.int .i64 0,.int .i64 0,.int .i64 0,.int .i64 0,.int .i64 0,.int .i64 0]⟩,some ⟨.arr 4 118,8,64,[.int .i64 0,.int .i64 0,.int .i64 0,.int .i64 0,.int .i64 0,.int .i64 0,.int .i64 0,.int .i64 0]⟩,none,some ⟨.other,1,8,[.pointer none]⟩,some ⟨.other,1,8,[.nilFunc]⟩,some ⟨.other,1,8,[.nilFunc]⟩,some ⟨.sl 118,1,24,[.slice none 0 0]⟩,some ⟨.other,1,8,[.nilFunc]⟩,some ⟨.struct [(0,58),(2,58),(4,3)],5,40,[.int .i64 0,.int .i64 0,.int .i64 0,.int .i64 0,.int .i64 0]⟩,some ⟨.struct [(0,58),(2,58),(4,3)],5,40,[.int .i64 0,.int .i64 0,.int .i64 0,.int .i64 0,.int .i64 0]⟩,some ⟨.other,1,8,[.nilFunc]⟩,some ⟨.other,1,8,[.nilFunc]⟩,some ⟨.other,1,8,[.nilFunc]⟩,some ⟨.other,1,8,[.nilFunc]⟩,some ⟨.other,1,8,[.nilFunc]⟩,some ⟨.struct [(0,3),(1,3),(2,3),(3,58)],5,40,[.int .i64 0,.int .i64 0,.int .i64 0,.int .i64 0,.int .i64 0]⟩,some ⟨.struct [(0,3),(1,3),(2,3),(3,58)],5,40,[.int .i64 0,.int .i64 0,.int .i64 0,.int .i64 0,.int .i64 0]⟩,some ⟨.other,1,8,[.nilFunc]⟩,some ⟨.struct [(0,3),(1,3),(2,3)],3,24,[.int .i64 0,.int .i64 0,.int .i64 0]⟩,some ⟨.other,1,8,[.nilFunc]⟩,some ⟨.other,1,8,[.nilFunc]⟩,some ⟨.other,1,8,[.nilFunc]⟩,some ⟨.other,1,8,[.pointer none]⟩,some ⟨.other,1,8,[.nilFunc]⟩,some ⟨.other,1,8,[.nilFunc]⟩,some ⟨.other,1,8,[.nilFunc]⟩,some ⟨.other,1,8,[.nilFunc]⟩,some ⟨.other,1,8,[.nilFunc]⟩,some ⟨.other,1,8,[.nilFunc]⟩,none,some ⟨.other,1,8,[.nilFunc]⟩,some ⟨.other,1,8,[.nilFunc]⟩,some ⟨.other,1,8,[.nilFunc]⟩,some ⟨.other,1,8,[.nilFunc]⟩,some ⟨.other,1,8,[.nilFunc]⟩,some ⟨.other,1,8,[.nilFunc]⟩,some ⟨.other,1,8,[.nilFunc]⟩,some ⟨.struct [(0,155)],1,8,[.nilFunc]⟩,some ⟨.struct [(0,155)],1,8,[.nilFunc]⟩,some ⟨.arr 3 157,3,24,[.nilFunc,.nilFunc,.nilFunc]⟩,some ⟨.other,1,8,[.nilFunc]⟩,some ⟨.other,1,8,[.pointer none]⟩,none,some ⟨.other,1,8,[.nilFunc]⟩,some ⟨.other,1,8,[.nilFunc]⟩,some ⟨.other,1,8,[.nilFunc]⟩,some ⟨.other,1,8,[.nilFunc]⟩,some ⟨.other,1,8,[.nilFunc]⟩,some ⟨.other,1,8,[.pointer none]⟩,some ⟨.other,1,8,[.nilFunc]⟩,some ⟨.other,1,8,[.nilFunc]⟩,some ⟨.other,1,8,[.nilFunc]⟩,some ⟨.other,1,8,[.nilFunc]⟩,some ⟨.other,1,8,[.nilFunc]⟩,some ⟨.other,1,8,[.nilFunc]⟩,some ⟨.other,1,8,[.nilFunc]⟩,some ⟨.mp 3 4,1,8,[.map none]⟩,some ⟨.sl 26,1,24,[.slice none 0 0]⟩,some ⟨.other,1,8,[.nilFunc]⟩,some ⟨.mp 194 196,1,8,[.map none]⟩,some ⟨.struct [(0,38),(2,178)],3,56,[.slice none 0 0,.slice none 0 0,.map none]⟩,some ⟨.struct [(0,38),(2,178)],3,56,[.slice none 0 0,.slice none 0 0,.map none]⟩,some ⟨.other,1,8,[.nilFunc]⟩,some ⟨.other,1,8,[.nilFunc]⟩,some ⟨.other,1,8,[.nilFunc]⟩,some ⟨.other,1,8,[.nilFunc]⟩,some ⟨.other,1,8,[.nilFunc]⟩,some ⟨.other,1,8,[.nilFunc]⟩,some ⟨.other,1,8,[.nilFunc]⟩,some ⟨.other,1,8,[.nilFunc]⟩,some ⟨.other,1,8,[.nilFunc]⟩,some ⟨.other,1,8,[.nilFunc]⟩,some ⟨.other,1,8,[.nilFunc]⟩,some ⟨.other,1,8,[.nilFunc]⟩,some ⟨.struct [(0,135),(5,3),(6,120)],14,112,[.int .i64 0,.int .i64 0,.int .i64 0,.int .i64 0,.int .i64 0,.int .i64 0,.int .i64 0,.int .i64 0,.int .i64 0,.int .i64 0,.int .i64 0,.int .i64 0,.int .i64 0,.int .i64 0]⟩,some ⟨.struct [(0,135),(5,3),(6,120)],14,112,[.int .i64 0,.int .i64 0,.int .i64 0,.int .i64 0,.int .i64 0,.int .i64 0,.int .i64 0,.int .i64 0,.int .i64 0,.int .i64 0,.int .i64 0,.int .i64 0,.int .i64 0,.int .i64 0]⟩,some ⟨.struct [(0,120),(8,4)],9,72,[.int .i64 0,.int .i64 0,.int .i64 0,.int .i64 0,.int .i64 0,.int .i64 0,.int .i64 0,.int .i64 0,.bool false]⟩,some ⟨.struct [(0,120),(8,4)],9,72,[.int .i64 0,.int .i64 0,.int .i64 0,.int .i64 0,.int .i64 0,.int .i64 0,.int .i64 0,.int .i64 0,.bool false]⟩,none,some ⟨.other,1,8,[.nilFunc]⟩,some ⟨.other,1,8,[.nilFunc]⟩,some ⟨.other,1,8,[.nilFunc]⟩,some ⟨.other,1,8,[.nilFunc]⟩,some ⟨.other,1,8,[.nilFunc]⟩,some ⟨.other,1,8,[.nilFunc]⟩,some ⟨.other,1,8,[.nilFunc]⟩,some ⟨.other,1,8,[.nilFunc]⟩,some ⟨.other,1,8,[.pointer none]⟩,some ⟨.other,1,8,[.nilFunc]⟩,some ⟨.other,1,8,[.nilFunc]⟩,some ⟨.other,1,8,[.nilFunc]⟩,none,none,some ⟨.arr 0 16,0,0,[]⟩,some ⟨.struct [(0,212)],0,0,[]⟩,some ⟨.struct [(0,212)],0,0,[]⟩,some ⟨.int .u32,1,4,[.int .u32 0]⟩,some ⟨.int .u8,1,1,[.int .u8 0]⟩,some ⟨.int .u8,1,1,[.int .u8 0]⟩,some ⟨.other,1,8,[.nilFunc]⟩,some ⟨.other,1,8,[.pointer none]⟩,some ⟨.int .i32,1,4,[.int .i32 0]⟩,some ⟨.int .i32,1,4,[.int .i32 0]⟩,some ⟨.struct [(0,12),(1,12),(2,215),(3,216),(4,5),(5,5),(6,217),(7,218),(8,219),(9,220),(10,221)],11,48,[.int .u64 0,.int .u64 0,.int .u32 0,.int .u8 0,.int .u8 0,.int .u8 0,.int .u8 0,.nilFunc,.pointer none,.int .i32 0,.int .i32 0]⟩,some ⟨.struct [(0,12),(1,12),(2,215),(3,216),(4,5),(5,5),(6,217),(7,218),(8,219),(9,220),(10,221)],11,48,[.int .u64 0,.int .u64 0,.int .u32 0,.int .u8 0,.int .u8 0,.int .u8 0,.int .u8 0,.nilFunc,.pointer none,.int .i32 0,.int .i32 0]⟩,some ⟨.other,1,8,[.pointer none]⟩]
noncomputable def tyX (t:TypeId):TI:=match Ayq Azk t with
 | some x=>x
 | none=>Ab Tryz.prog t
def Ahd:Nat→List (Option TI)→Prop
 | _,[]=>True
 | i,none :: l=>Ahd (i+1) l
 | i,some x :: l=>Ab Tryz.prog i=x∧Ahd (i+1) l
theorem R1:∀ {l:List (Option TI)} {i t:Nat} {x:TI},Ahd i l→Ayq l t=some x→Ab Tryz.prog (i+t)=x
 | [],_,_,_,_,h=>by cases h
 | none :: l,i,0,_,_,h=>by cases h
 | some y :: l,i,0,x,hk,h=>by cases h; exact hk.1
 | none :: l,i,t+1,x,hk,h=>by have:=R1 (i:=i+1) (t:=t) hk h; rwa [show i+(t+1)=i+1+t by omega]
 | some y :: l,i,t+1,x,hk,h=>by have:=R1 (i:=i+1) (t:=t) hk.2 h; rwa [show i+(t+1)=i+1+t by omega]
theorem Awy:Ahd 0 Azk:=⟨ty1,ty2,ty3,ty4,ty5,ty6,ty7,ty8,Bab,Bag,Bdk,Bal,Bc8,Azq,Azz,Bam,Bac,Bc9,Bdl,Bdd,Bau,Bbb,Azx,Baf,Bcm,Bbe,Azd,Bcr,Azc,Ba4,Bbp,Bb4,Azg,Ba9,Bbo,Bcv,Azo,Azn,Bcq,Bdj,Bb2,Azl,Azw,Bco,Azi,Bdi,Bax,Bae,Aze,Bao,Bbr,Bbm,Bbn,Ba7,Bbi,Bbg,Bca,Az2,Baj,Bb5,Az1,Bc5,Bar,Bcx,Azm,Bc2,Bdm,Bb9,Bcy,Bcb,Azt,Ba0,Ba8,Azs,Bb0,Bbz,Bcf,Bc1,Bc0,Bbu,Baq,Ba6,Bad,Bb3,Az5,Bcn,Awf,Avv,Au9,At9,Aub,Av0,Asu,Aux,Att,Avy,As2,Au2,Atp,Atq,Av2,Auh,Awm,Av8,At0,Agi,Aul,Aui,Atc,Avt,Au4,Avx,Awk,At1,Aua,Auj,Av1,Ath,At6,Avg,Avk,Atn,At2,As3,Aws,Asy,Av7,As0,Ave,Avn,Avd,Avf,Atd,Awg,Auk,Avh,Avb,Awb,At5,Asz,Atl,Auw,As7,Aum,Ats,Avj,Au6,Av4,Aud,Aun,Atk,Awh,Atf,Awq,Ava,Atg,At8,Auf,Awp,Auc,Awr,Atz,Au0,Awc,Asw,Asv,Atx,Asx,Awd,Avl,Au5,Au7,Atv,At3,At4,Ate,Auv,As5,Auq,Avc,Avu,Av6,Atr,Atb,Avi,Aug,Awn,Awl,Auz,Av3,As6,Aty,Ast,Au1,As1,Avq,Awo,Atw,Avo,Ata,Avm,Avw,Avr,At7,trivial⟩
theorem Ax7 (t:TypeId):tyX t=Ab Tryz.prog t:=by
 unfold tyX
 split
 ·rename_i x h; have:=R1 Awy h; rw [Nat.zero_add] at this; exact this.symm
 ·rfl
def knX (f:Nat) (xs:List AV):Option (Nat × List (List PV)):=match eqN f 131 with
 | true=>go 1 xs
 | false=>match eqN f 87 with
  | true=>go 5 xs
  | false=>none
 where go (k:Nat):List AV→Option (Nat × List (List PV))
 | [.p (.sl es)]=>match (es.all fun c=>eqN c.length k)&&((es.all fun e=>e.all PV.isVal)&&ltN es.length 1000000) with
  | true=>some (k,es)
  | false=>none
 | [.p (.val (.slice none 0 0))]=>some (k,[])
 | _=>none
theorem Axo (f:Nat) (xs:List AV) (k:Nat) (es:List (List PV)) (h:knX f xs=some (k,es)):H0 Tryz.prog f xs k es:=by
 have key:∀ (k0:Nat),knX.go k0 xs=some (k,es)→k=k0∧((xs=[.p (.sl es)]∧(es.all fun c=>decide (c.length=k0))=true∧(es.all fun e=>e.all PV.isVal)=true∧es.length < 1000000)∨(xs=[C3]∧es=[])):=by
  intro k0 h
  unfold knX.go at h
  split at h
  ·split at h
   ·rename_i hc
    cases h
    simp only [Bool.and_eq_true,Ga] at hc
    refine ⟨rfl,.inl ⟨rfl,?_,hc.2.1,hc.2.2⟩⟩
    rw [List.all_eq_true] at *
    exact fun c hm=>decide_eq_true (Bm.1 (hc.1 c hm))
   ·cases h
  ·cases h; exact ⟨rfl,.inr ⟨rfl,rfl⟩⟩
  ·cases h
 unfold knX at h
 split at h
 ·rename_i hf; rw [Bm] at hf; subst hf
  obtain ⟨rfl,⟨rfl,h1,h2,h3⟩ | ⟨rfl,rfl⟩⟩:=key 1 h
  ·exact Aoz es h1 h2 h3
  ·exact Akc
 ·split at h
  ·rename_i hf; rw [Bm] at hf; subst hf
   obtain ⟨rfl,⟨rfl,h1,h2,h3⟩ | ⟨rfl,rfl⟩⟩:=key 5 h
   ·exact Aco es h1 h2 h3
   ·exact Aiq
  ·cases h
def mzX:Value:=Ao2
def mtX (t:Nat):Option (Nat × Value):=match eqN t 178 with
 | true=>some (14,mzX)
 | false=>none
def qeX (t n:Nat):Bool:=eqN t 120&&eqN n 8
theorem Awu:Mh Tryz.prog 120 8:=R2 (by kernel_rfl)
def cfX (N id:Nat):Option (Option Nat × List Cf):=match eqN N 69&&eqN id 706 with
 | true=>some (none,[.sto [11] 8,.sto [67] 8])
 | false=>match eqN N 54&&eqN id 711 with
 | true=>some (some 9,[.app [4]])
 | false=>match eqN N 52&&eqN id 714 with
 | true=>some (none,[])
 | false=>match eqN N 54&&eqN id 208 with
 | true=>some (some 8,[])
 | false=>match eqN N 54&&eqN id 715 with
 | true=>some (some 9,[.app [6],.app [13,41]])
 | false=>none
def lvX (_ _:Nat):Option (List Nat):=none
noncomputable def rpX:RP:=⟨tyX,[60,61,66,68,71,76,81,84,85,88,98,101,105,107,110,112,116,123,125,127,128,133,135,136,138,139],[84],[130],knX,mtX,qeX,cfX,lvX⟩
theorem Rj:Pg Tryz.prog rpX where
 ty:=Ax7
 mix:=rfl
 kn:=Axo
 mt t n z h:=by
  have h:mtX t=some (n,z):=h
  unfold mtX at h
  split at h
  ·rename_i he; rw [Bm] at he; subst he; cases h
   exact ⟨194,196,by simp only [amT],Av9,rfl,Ay7⟩
  ·cases h
 qe t n h:=by
  have h:qeX t n=true:=h
  unfold qeX at h
  rw [Bool.and_eq_true,Bm,Bm] at h
  obtain ⟨rfl,rfl⟩:=h
  exact Awu
end AM.Try
end
