/- Lemmas for the proof: an abstract machine over the program's form in Lean, and the program's functions walked on it. -/
import Derived.Test.YtbgiddcgdgdmbaaQ3
import Derived.Test.YtbgiddcgdgdmbaaProg
import Derived.KernelRfl
/- What the program's tables say of its types, read off once. -/
section
namespace AM.Try
open Go AM Go.Proofs
theorem ty1:Ab Try.prog 1=⟨.other,1,8,[.nilFunc]⟩:=by kernel_rfl
theorem ty2:Ab Try.prog 2=⟨.int .i64,1,8,[.int .i64 0]⟩:=by kernel_rfl
theorem ty3:Ab Try.prog 3=⟨.int .i64,1,8,[.int .i64 0]⟩:=by kernel_rfl
theorem ty4:Ab Try.prog 4=⟨.bool,1,1,[.bool false]⟩:=by kernel_rfl
theorem ty5:Ab Try.prog 5=⟨.int .u8,1,1,[.int .u8 0]⟩:=by kernel_rfl
theorem ty6:Ab Try.prog 6=⟨.int .u8,1,1,[.int .u8 0]⟩:=by kernel_rfl
theorem ty7:Ab Try.prog 7=⟨.struct [(0,2),(1,3),(2,4),(3,6)],4,24,[.int .i64 0,.int .i64 0,.bool false,.int .u8 0]⟩:=by kernel_rfl
theorem ty8:Ab Try.prog 8=⟨.struct [(0,2),(1,3),(2,4),(3,6)],4,24,[.int .i64 0,.int .i64 0,.bool false,.int .u8 0]⟩:=by kernel_rfl
theorem Az9:Ab Try.prog 12=⟨.int .u64,1,8,[.int .u64 0]⟩:=by kernel_rfl
theorem Azm:Ab Try.prog 15=⟨.other,1,8,[.pointer none]⟩:=by kernel_rfl
theorem Bbx:Ab Try.prog 16=⟨.other,1,8,[.pointer none]⟩:=by kernel_rfl
theorem Ba9:Ab Try.prog 17=⟨.other,1,8,[.pointer none]⟩:=by kernel_rfl
theorem Ay7:Ab Try.prog 18=⟨.struct [(0,17)],1,8,[.pointer none]⟩:=by kernel_rfl
theorem Bat:Ab Try.prog 19=⟨.struct [(0,17)],1,8,[.pointer none]⟩:=by kernel_rfl
theorem Bbp:Ab Try.prog 20=⟨.other,1,16,[.nilIface]⟩:=by kernel_rfl
theorem Bad:Ab Try.prog 21=⟨.int .i32,1,4,[.int .i32 0]⟩:=by kernel_rfl
theorem Aq0:Ab Try.prog 22=⟨.sl 3,1,24,[.slice none 0 0]⟩:=by kernel_rfl
theorem Ba8:Ab Try.prog 23=⟨.sl 22,1,24,[.slice none 0 0]⟩:=by kernel_rfl
theorem Bbm:Ab Try.prog 24=⟨.struct [(0,22),(1,22),(2,23)],3,72,[.slice none 0 0,.slice none 0 0,.slice none 0 0]⟩:=by kernel_rfl
theorem Ba0:Ab Try.prog 25=⟨.struct [(0,22),(1,22),(2,23)],3,72,[.slice none 0 0,.slice none 0 0,.slice none 0 0]⟩:=by kernel_rfl
theorem Bbf:Ab Try.prog 26=⟨.sl 36,1,24,[.slice none 0 0]⟩:=by kernel_rfl
theorem Az7:Ab Try.prog 27=⟨.struct [(0,25),(3,3),(4,26)],5,104,[.slice none 0 0,.slice none 0 0,.slice none 0 0,.int .i64 0,.slice none 0 0]⟩:=by kernel_rfl
theorem Bac:Ab Try.prog 28=⟨.struct [(0,25),(3,3),(4,26)],5,104,[.slice none 0 0,.slice none 0 0,.slice none 0 0,.int .i64 0,.slice none 0 0]⟩:=by kernel_rfl
theorem Azw:Ab Try.prog 29=⟨.other,1,8,[.nilFunc]⟩:=by kernel_rfl
theorem Ba6:Ab Try.prog 30=⟨.other,1,8,[.nilFunc]⟩:=by kernel_rfl
theorem Bby:Ab Try.prog 31=⟨.other,1,8,[.nilFunc]⟩:=by kernel_rfl
theorem Az1:Ab Try.prog 32=⟨.other,1,8,[.pointer none]⟩:=by kernel_rfl
theorem Bax:Ab Try.prog 33=⟨.struct [(0,3),(1,3)],2,16,[.int .i64 0,.int .i64 0]⟩:=by kernel_rfl
theorem Azj:Ab Try.prog 34=⟨.struct [(0,3),(1,3)],2,16,[.int .i64 0,.int .i64 0]⟩:=by kernel_rfl
theorem Bbg:Ab Try.prog 35=⟨.struct [(0,3),(1,34),(3,34)],5,40,[.int .i64 0,.int .i64 0,.int .i64 0,.int .i64 0,.int .i64 0]⟩:=by kernel_rfl
theorem Ay8:Ab Try.prog 36=⟨.struct [(0,3),(1,34),(3,34)],5,40,[.int .i64 0,.int .i64 0,.int .i64 0,.int .i64 0,.int .i64 0]⟩:=by kernel_rfl
theorem Bbb:Ab Try.prog 37=⟨.sl 52,1,24,[.slice none 0 0]⟩:=by kernel_rfl
theorem Az5:Ab Try.prog 38=⟨.int .i64,1,8,[.int .i64 0]⟩:=by kernel_rfl
theorem Aze:Ab Try.prog 40=⟨.other,1,8,[.nilFunc]⟩:=by kernel_rfl
theorem Bb0:Ab Try.prog 41=⟨.struct [(0,22),(1,22),(2,23)],3,72,[.slice none 0 0,.slice none 0 0,.slice none 0 0]⟩:=by kernel_rfl
theorem Azz:Ab Try.prog 42=⟨.sl 146,1,24,[.slice none 0 0]⟩:=by kernel_rfl
theorem Bba:Ab Try.prog 43=⟨.struct [(0,41),(3,3),(4,42)],5,104,[.slice none 0 0,.slice none 0 0,.slice none 0 0,.int .i64 0,.slice none 0 0]⟩:=by kernel_rfl
theorem Azu:Ab Try.prog 44=⟨.struct [(0,41),(3,3),(4,42)],5,104,[.slice none 0 0,.slice none 0 0,.slice none 0 0,.int .i64 0,.slice none 0 0]⟩:=by kernel_rfl
theorem Bbv:Ab Try.prog 45=⟨.other,1,8,[.nilFunc]⟩:=by kernel_rfl
theorem Azn:Ab Try.prog 46=⟨.sl 56,1,24,[.slice none 0 0]⟩:=by kernel_rfl
theorem Az6:Ab Try.prog 47=⟨.sl 58,1,24,[.slice none 0 0]⟩:=by kernel_rfl
theorem Bas:Ab Try.prog 48=⟨.struct [(0,46),(1,47)],2,48,[.slice none 0 0,.slice none 0 0]⟩:=by kernel_rfl
theorem Azh:Ab Try.prog 49=⟨.struct [(0,46),(1,47)],2,48,[.slice none 0 0,.slice none 0 0]⟩:=by kernel_rfl
theorem Az2:Ab Try.prog 50=⟨.struct [(0,22),(1,22),(2,22)],3,72,[.slice none 0 0,.slice none 0 0,.slice none 0 0]⟩:=by kernel_rfl
theorem Baz:Ab Try.prog 51=⟨.struct [(0,22),(1,22),(2,22)],3,72,[.slice none 0 0,.slice none 0 0,.slice none 0 0]⟩:=by kernel_rfl
theorem Ba1:Ab Try.prog 52=⟨.struct [(0,3),(1,3)],2,16,[.int .i64 0,.int .i64 0]⟩:=by kernel_rfl
theorem Bbk:Ab Try.prog 53=⟨.struct [(0,3),(1,3)],2,16,[.int .i64 0,.int .i64 0]⟩:=by kernel_rfl
theorem Azx:Ab Try.prog 54=⟨.other,1,8,[.nilFunc]⟩:=by kernel_rfl
theorem Bak:Ab Try.prog 55=⟨.struct [(0,53),(2,53),(4,3)],5,40,[.int .i64 0,.int .i64 0,.int .i64 0,.int .i64 0,.int .i64 0]⟩:=by kernel_rfl
theorem Bbe:Ab Try.prog 56=⟨.struct [(0,53),(2,53),(4,3)],5,40,[.int .i64 0,.int .i64 0,.int .i64 0,.int .i64 0,.int .i64 0]⟩:=by kernel_rfl
theorem Bbw:Ab Try.prog 57=⟨.struct [(0,3),(1,3),(2,3),(3,53)],5,40,[.int .i64 0,.int .i64 0,.int .i64 0,.int .i64 0,.int .i64 0]⟩:=by kernel_rfl
theorem Bal:Ab Try.prog 58=⟨.struct [(0,3),(1,3),(2,3),(3,53)],5,40,[.int .i64 0,.int .i64 0,.int .i64 0,.int .i64 0,.int .i64 0]⟩:=by kernel_rfl
theorem Baa:Ab Try.prog 60=⟨.other,1,8,[.nilFunc]⟩:=by kernel_rfl
theorem Bbd:Ab Try.prog 61=⟨.sl 65,1,24,[.slice none 0 0]⟩:=by kernel_rfl
theorem Baw:Ab Try.prog 63=⟨.other,1,8,[.nilFunc]⟩:=by kernel_rfl
theorem Bai:Ab Try.prog 64=⟨.struct [(0,3),(1,3),(2,3)],3,24,[.int .i64 0,.int .i64 0,.int .i64 0]⟩:=by kernel_rfl
theorem Bay:Ab Try.prog 65=⟨.struct [(0,3),(1,3),(2,3)],3,24,[.int .i64 0,.int .i64 0,.int .i64 0]⟩:=by kernel_rfl
theorem Bbo:Ab Try.prog 66=⟨.other,1,8,[.nilFunc]⟩:=by kernel_rfl
theorem Bbu:Ab Try.prog 68=⟨.other,1,8,[.nilFunc]⟩:=by kernel_rfl
theorem Ba5:Ab Try.prog 69=⟨.other,1,8,[.nilFunc]⟩:=by kernel_rfl
theorem Bag:Ab Try.prog 70=⟨.struct [(0,3),(1,3)],2,16,[.int .i64 0,.int .i64 0]⟩:=by kernel_rfl
theorem Ban:Ab Try.prog 71=⟨.struct [(0,3),(1,3)],2,16,[.int .i64 0,.int .i64 0]⟩:=by kernel_rfl
theorem Ba3:Ab Try.prog 72=⟨.sl 71,1,24,[.slice none 0 0]⟩:=by kernel_rfl
theorem Bb4:Ab Try.prog 73=⟨.sl 78,1,24,[.slice none 0 0]⟩:=by kernel_rfl
theorem Azc:Ab Try.prog 74=⟨.struct [(0,3),(1,3),(2,3),(3,3),(4,72),(5,73)],6,80,[.int .i64 0,.int .i64 0,.int .i64 0,.int .i64 0,.slice none 0 0,.slice none 0 0]⟩:=by kernel_rfl
theorem Azr:Ab Try.prog 75=⟨.struct [(0,3),(1,3),(2,3),(3,3),(4,72),(5,73)],6,80,[.int .i64 0,.int .i64 0,.int .i64 0,.int .i64 0,.slice none 0 0,.slice none 0 0]⟩:=by kernel_rfl
theorem Az0:Ab Try.prog 76=⟨.struct [(0,3),(1,3)],2,16,[.int .i64 0,.int .i64 0]⟩:=by kernel_rfl
theorem Bbq:Ab Try.prog 77=⟨.struct [(0,3),(1,3),(2,76),(4,3)],5,40,[.int .i64 0,.int .i64 0,.int .i64 0,.int .i64 0,.int .i64 0]⟩:=by kernel_rfl
theorem Bbc:Ab Try.prog 78=⟨.struct [(0,3),(1,3),(2,76),(4,3)],5,40,[.int .i64 0,.int .i64 0,.int .i64 0,.int .i64 0,.int .i64 0]⟩:=by kernel_rfl
theorem Bbt:Ab Try.prog 79=⟨.other,1,8,[.nilFunc]⟩:=by kernel_rfl
theorem Avd:Ab Try.prog 80=⟨.sl 90,1,24,[.slice none 0 0]⟩:=by kernel_rfl
theorem Ay9:Ab Try.prog 82=⟨.other,1,8,[.nilFunc]⟩:=by kernel_rfl
theorem Bab:Ab Try.prog 83=⟨.sl 173,1,24,[.slice none 0 0]⟩:=by kernel_rfl
theorem Az4:Ab Try.prog 84=⟨.sl 175,1,24,[.slice none 0 0]⟩:=by kernel_rfl
theorem Azo:Ab Try.prog 85=⟨.struct [(0,3),(1,3),(2,3),(3,3),(4,83),(5,84)],6,80,[.int .i64 0,.int .i64 0,.int .i64 0,.int .i64 0,.slice none 0 0,.slice none 0 0]⟩:=by kernel_rfl
theorem Bav:Ab Try.prog 86=⟨.struct [(0,3),(1,3),(2,3),(3,3),(4,83),(5,84)],6,80,[.int .i64 0,.int .i64 0,.int .i64 0,.int .i64 0,.slice none 0 0,.slice none 0 0]⟩:=by kernel_rfl
theorem Azf:Ab Try.prog 87=⟨.other,1,8,[.nilFunc]⟩:=by kernel_rfl
theorem Azy:Ab Try.prog 89=⟨.other,1,8,[.nilFunc]⟩:=by kernel_rfl
theorem Aje:Ab Try.prog 90=⟨.struct [(0,3),(1,3)],2,16,[.int .i64 0,.int .i64 0]⟩:=by kernel_rfl
theorem Ba2:Ab Try.prog 91=⟨.struct [(0,3),(1,3)],2,16,[.int .i64 0,.int .i64 0]⟩:=by kernel_rfl
theorem Azl:Ab Try.prog 92=⟨.sl 91,1,24,[.slice none 0 0]⟩:=by kernel_rfl
theorem Bb5:Ab Try.prog 93=⟨.sl 53,1,24,[.slice none 0 0]⟩:=by kernel_rfl
theorem Bb2:Ab Try.prog 94=⟨.other,1,8,[.nilFunc]⟩:=by kernel_rfl
theorem Baq:Ab Try.prog 95=⟨.other,1,8,[.nilFunc]⟩:=by kernel_rfl
theorem Az8:Ab Try.prog 96=⟨.other,1,8,[.nilFunc]⟩:=by kernel_rfl
theorem Bbs:Ab Try.prog 97=⟨.other,1,8,[.nilFunc]⟩:=by kernel_rfl
theorem Bbi:Ab Try.prog 98=⟨.other,1,8,[.nilFunc]⟩:=by kernel_rfl
theorem Ba7:Ab Try.prog 99=⟨.other,1,8,[.nilFunc]⟩:=by kernel_rfl
theorem Ati:Ab Try.prog 100=⟨.other,1,8,[.nilFunc]⟩:=by kernel_rfl
theorem Awx:Ab Try.prog 101=⟨.other,1,8,[.nilFunc]⟩:=by kernel_rfl
theorem Awc:Ab Try.prog 102=⟨.other,1,8,[.nilFunc]⟩:=by kernel_rfl
theorem Aub:Ab Try.prog 103=⟨.other,1,8,[.nilFunc]⟩:=by kernel_rfl
theorem Avl:Ab Try.prog 105=⟨.other,1,8,[.nilFunc]⟩:=by kernel_rfl
theorem Aux:Ab Try.prog 106=⟨.other,1,8,[.nilFunc]⟩:=by kernel_rfl
theorem Axq:Ab Try.prog 107=⟨.other,1,8,[.nilFunc]⟩:=by kernel_rfl
theorem Ays:Ab Try.prog 108=⟨.other,1,8,[.nilFunc]⟩:=by kernel_rfl
theorem Awd:Ab Try.prog 109=⟨.other,1,8,[.nilFunc]⟩:=by kernel_rfl
theorem Aqz:Ab Try.prog 110=⟨.other,1,8,[.nilFunc]⟩:=by kernel_rfl
theorem Au1:Ab Try.prog 111=⟨.struct [(0,3),(1,53),(3,53)],5,40,[.int .i64 0,.int .i64 0,.int .i64 0,.int .i64 0,.int .i64 0]⟩:=by kernel_rfl
theorem Ayb:Ab Try.prog 112=⟨.struct [(0,3),(1,53),(3,53)],5,40,[.int .i64 0,.int .i64 0,.int .i64 0,.int .i64 0,.int .i64 0]⟩:=by kernel_rfl
theorem Asi:Ab Try.prog 113=⟨.sl 112,1,24,[.slice none 0 0]⟩:=by kernel_rfl
theorem Avi:Ab Try.prog 114=⟨.other,1,8,[.nilFunc]⟩:=by kernel_rfl
theorem Asr:Ab Try.prog 115=⟨.sl 139,1,24,[.slice none 0 0]⟩:=by kernel_rfl
theorem Asx:Ab Try.prog 117=⟨.other,1,8,[.nilFunc]⟩:=by kernel_rfl
theorem Ayo:Ab Try.prog 118=⟨.other,1,8,[.nilFunc]⟩:=by kernel_rfl
theorem Ayd:Ab Try.prog 119=⟨.other,1,8,[.nilFunc]⟩:=by kernel_rfl
theorem Avu:Ab Try.prog 120=⟨.sl 129,1,24,[.slice none 0 0]⟩:=by kernel_rfl
theorem Au5:Ab Try.prog 121=⟨.sl 132,1,24,[.slice none 0 0]⟩:=by kernel_rfl
theorem At4:Ab Try.prog 122=⟨.struct [(0,120),(1,121)],2,48,[.slice none 0 0,.slice none 0 0]⟩:=by kernel_rfl
theorem Aru:Ab Try.prog 123=⟨.struct [(0,120),(1,121)],2,48,[.slice none 0 0,.slice none 0 0]⟩:=by kernel_rfl
theorem At3:Ab Try.prog 124=⟨.struct [(0,3),(1,91),(3,91)],5,40,[.int .i64 0,.int .i64 0,.int .i64 0,.int .i64 0,.int .i64 0]⟩:=by kernel_rfl
theorem Aro:Ab Try.prog 125=⟨.struct [(0,3),(1,91),(3,91)],5,40,[.int .i64 0,.int .i64 0,.int .i64 0,.int .i64 0,.int .i64 0]⟩:=by kernel_rfl
theorem Ava:Ab Try.prog 126=⟨.other,1,8,[.nilFunc]⟩:=by kernel_rfl
theorem As6:Ab Try.prog 127=⟨.other,1,8,[.pointer none]⟩:=by kernel_rfl
theorem Aqu:Ab Try.prog 128=⟨.struct [(0,91),(2,91),(4,3)],5,40,[.int .i64 0,.int .i64 0,.int .i64 0,.int .i64 0,.int .i64 0]⟩:=by kernel_rfl
theorem Asv:Ab Try.prog 129=⟨.struct [(0,91),(2,91),(4,3)],5,40,[.int .i64 0,.int .i64 0,.int .i64 0,.int .i64 0,.int .i64 0]⟩:=by kernel_rfl
theorem As2:Ab Try.prog 130=⟨.other,1,8,[.pointer none]⟩:=by kernel_rfl
theorem Arl:Ab Try.prog 131=⟨.struct [(0,3),(1,3),(2,3),(3,91)],5,40,[.int .i64 0,.int .i64 0,.int .i64 0,.int .i64 0,.int .i64 0]⟩:=by kernel_rfl
theorem Awh:Ab Try.prog 132=⟨.struct [(0,3),(1,3),(2,3),(3,91)],5,40,[.int .i64 0,.int .i64 0,.int .i64 0,.int .i64 0,.int .i64 0]⟩:=by kernel_rfl
theorem Atj:Ab Try.prog 133=⟨.other,1,8,[.nilFunc]⟩:=by kernel_rfl
theorem Asl:Ab Try.prog 134=⟨.other,1,8,[.nilFunc]⟩:=by kernel_rfl
theorem Ax5:Ab Try.prog 135=⟨.other,1,8,[.nilFunc]⟩:=by kernel_rfl
theorem Ark:Ab Try.prog 136=⟨.sl 125,1,24,[.slice none 0 0]⟩:=by kernel_rfl
theorem Ax2:Ab Try.prog 137=⟨.other,1,8,[.nilFunc]⟩:=by kernel_rfl
theorem Atx:Ab Try.prog 138=⟨.struct [(0,53),(2,53),(4,53)],6,48,[.int .i64 0,.int .i64 0,.int .i64 0,.int .i64 0,.int .i64 0,.int .i64 0]⟩:=by kernel_rfl
theorem Aus:Ab Try.prog 139=⟨.struct [(0,53),(2,53),(4,53)],6,48,[.int .i64 0,.int .i64 0,.int .i64 0,.int .i64 0,.int .i64 0,.int .i64 0]⟩:=by kernel_rfl
theorem Ayc:Ab Try.prog 140=⟨.other,1,8,[.nilFunc]⟩:=by kernel_rfl
theorem Aul:Ab Try.prog 141=⟨.other,1,8,[.nilFunc]⟩:=by kernel_rfl
theorem Arp:Ab Try.prog 142=⟨.other,1,8,[.nilFunc]⟩:=by kernel_rfl
theorem Axz:Ab Try.prog 143=⟨.other,1,8,[.nilFunc]⟩:=by kernel_rfl
theorem Aww:Ab Try.prog 144=⟨.other,1,8,[.nilFunc]⟩:=by kernel_rfl
theorem Art:Ab Try.prog 145=⟨.struct [(0,3),(1,52),(3,52)],5,40,[.int .i64 0,.int .i64 0,.int .i64 0,.int .i64 0,.int .i64 0]⟩:=by kernel_rfl
theorem Atb:Ab Try.prog 146=⟨.struct [(0,3),(1,52),(3,52)],5,40,[.int .i64 0,.int .i64 0,.int .i64 0,.int .i64 0,.int .i64 0]⟩:=by kernel_rfl
theorem Ast:Ab Try.prog 147=⟨.other,1,8,[.pointer none]⟩:=by kernel_rfl
theorem Avo:Ab Try.prog 149=⟨.other,1,8,[.nilFunc]⟩:=by kernel_rfl
theorem Arw:Ab Try.prog 150=⟨.arr 6 3,6,48,[.int .i64 0,.int .i64 0,.int .i64 0,.int .i64 0,.int .i64 0,.int .i64 0]⟩:=by kernel_rfl
theorem Avs:Ab Try.prog 151=⟨.arr 6 3,6,48,[.int .i64 0,.int .i64 0,.int .i64 0,.int .i64 0,.int .i64 0,.int .i64 0]⟩:=by kernel_rfl
theorem Awr:Ab Try.prog 152=⟨.struct [(0,44),(5,37),(6,151),(12,151)],18,224,[.slice none 0 0,.slice none 0 0,.slice none 0 0,.int .i64 0,.slice none 0 0,.slice none 0 0,.int .i64 0,.int .i64 0,.int .i64 0,.int .i64 0,.int .i64 0,.int .i64 0,.int .i64 0,.int .i64 0,.int .i64 0,.int .i64 0,.int .i64 0,.int .i64 0]⟩:=by kernel_rfl
theorem Awf:Ab Try.prog 153=⟨.struct [(0,44),(5,37),(6,151),(12,151)],18,224,[.slice none 0 0,.slice none 0 0,.slice none 0 0,.int .i64 0,.slice none 0 0,.slice none 0 0,.int .i64 0,.int .i64 0,.int .i64 0,.int .i64 0,.int .i64 0,.int .i64 0,.int .i64 0,.int .i64 0,.int .i64 0,.int .i64 0,.int .i64 0,.int .i64 0]⟩:=by kernel_rfl
theorem Av9:Ab Try.prog 154=⟨.other,1,8,[.nilFunc]⟩:=by kernel_rfl
theorem Atw:Ab Try.prog 155=⟨.other,1,8,[.nilFunc]⟩:=by kernel_rfl
theorem Auy:Ab Try.prog 156=⟨.other,1,8,[.nilFunc]⟩:=by kernel_rfl
theorem Axo:Ab Try.prog 157=⟨.other,1,8,[.nilFunc]⟩:=by kernel_rfl
theorem Awz:Ab Try.prog 158=⟨.struct [(0,22),(1,3)],2,32,[.slice none 0 0,.int .i64 0]⟩:=by kernel_rfl
theorem Aw6:Ab Try.prog 159=⟨.struct [(0,22),(1,3)],2,32,[.slice none 0 0,.int .i64 0]⟩:=by kernel_rfl
theorem At9:Ab Try.prog 160=⟨.other,1,8,[.nilFunc]⟩:=by kernel_rfl
theorem Atu:Ab Try.prog 161=⟨.other,1,8,[.nilFunc]⟩:=by kernel_rfl
theorem Awe:Ab Try.prog 162=⟨.other,1,8,[.nilFunc]⟩:=by kernel_rfl
theorem Avy:Ab Try.prog 163=⟨.struct [(0,3),(1,3)],2,16,[.int .i64 0,.int .i64 0]⟩:=by kernel_rfl
theorem Atk:Ab Try.prog 164=⟨.struct [(0,3),(1,3)],2,16,[.int .i64 0,.int .i64 0]⟩:=by kernel_rfl
theorem Auo:Ab Try.prog 165=⟨.arr 4 164,8,64,[.int .i64 0,.int .i64 0,.int .i64 0,.int .i64 0,.int .i64 0,.int .i64 0,.int .i64 0,.int .i64 0]⟩:=by kernel_rfl
theorem At6:Ab Try.prog 166=⟨.arr 4 164,8,64,[.int .i64 0,.int .i64 0,.int .i64 0,.int .i64 0,.int .i64 0,.int .i64 0,.int .i64 0,.int .i64 0]⟩:=by kernel_rfl
theorem Aq6:Ab Try.prog 168=⟨.other,1,8,[.pointer none]⟩:=by kernel_rfl
theorem Axa:Ab Try.prog 169=⟨.other,1,8,[.nilFunc]⟩:=by kernel_rfl
theorem Av2:Ab Try.prog 170=⟨.other,1,8,[.nilFunc]⟩:=by kernel_rfl
theorem Awp:Ab Try.prog 171=⟨.sl 164,1,24,[.slice none 0 0]⟩:=by kernel_rfl
theorem Atl:Ab Try.prog 172=⟨.other,1,8,[.nilFunc]⟩:=by kernel_rfl
theorem Awj:Ab Try.prog 173=⟨.struct [(0,3),(1,3)],2,16,[.int .i64 0,.int .i64 0]⟩:=by kernel_rfl
theorem Atd:Ab Try.prog 174=⟨.struct [(0,3),(1,3),(2,90),(4,3)],5,40,[.int .i64 0,.int .i64 0,.int .i64 0,.int .i64 0,.int .i64 0]⟩:=by kernel_rfl
theorem Avb:Ab Try.prog 175=⟨.struct [(0,3),(1,3),(2,90),(4,3)],5,40,[.int .i64 0,.int .i64 0,.int .i64 0,.int .i64 0,.int .i64 0]⟩:=by kernel_rfl
theorem Aty:Ab Try.prog 176=⟨.other,1,8,[.nilFunc]⟩:=by kernel_rfl
theorem Avm:Ab Try.prog 177=⟨.other,1,8,[.nilFunc]⟩:=by kernel_rfl
theorem Arm:Ab Try.prog 178=⟨.other,1,8,[.nilFunc]⟩:=by kernel_rfl
theorem Avf:Ab Try.prog 179=⟨.other,1,8,[.nilFunc]⟩:=by kernel_rfl
theorem Avz:Ab Try.prog 180=⟨.arr 12 3,12,96,[.int .i64 0,.int .i64 0,.int .i64 0,.int .i64 0,.int .i64 0,.int .i64 0,.int .i64 0,.int .i64 0,.int .i64 0,.int .i64 0,.int .i64 0,.int .i64 0]⟩:=by kernel_rfl
theorem Aoi:Ab Try.prog 181=⟨.arr 12 3,12,96,[.int .i64 0,.int .i64 0,.int .i64 0,.int .i64 0,.int .i64 0,.int .i64 0,.int .i64 0,.int .i64 0,.int .i64 0,.int .i64 0,.int .i64 0,.int .i64 0]⟩:=by kernel_rfl
theorem Ar6:Ab Try.prog 182=⟨.other,1,8,[.nilFunc]⟩:=by kernel_rfl
theorem Aw7:Ab Try.prog 183=⟨.other,1,8,[.nilFunc]⟩:=by kernel_rfl
theorem Arf:Ab Try.prog 184=⟨.other,1,8,[.nilFunc]⟩:=by kernel_rfl
theorem Axp:Ab Try.prog 185=⟨.other,1,8,[.nilFunc]⟩:=by kernel_rfl
theorem Arz:Ab Try.prog 186=⟨.other,1,8,[.nilFunc]⟩:=by kernel_rfl
theorem Asp:Ab Try.prog 187=⟨.other,1,8,[.nilFunc]⟩:=by kernel_rfl
theorem Ayn:Ab Try.prog 188=⟨.other,1,8,[.nilFunc]⟩:=by kernel_rfl
theorem Ayu:Ab Try.prog 189=⟨.other,1,8,[.nilFunc]⟩:=by kernel_rfl
theorem Ayj:Ab Try.prog 190=⟨.other,1,8,[.nilFunc]⟩:=by kernel_rfl
theorem Av0:Ab Try.prog 191=⟨.other,1,8,[.nilFunc]⟩:=by kernel_rfl
theorem Aq7:Ab Try.prog 192=⟨.other,1,8,[.nilFunc]⟩:=by kernel_rfl
theorem Aud:Ab Try.prog 193=⟨.other,1,8,[.nilFunc]⟩:=by kernel_rfl
theorem Avq:Ab Try.prog 194=⟨.mp 3 4,1,8,[.map none]⟩:=by kernel_rfl
theorem Ar8:Ab Try.prog 196=⟨.other,1,8,[.nilFunc]⟩:=by kernel_rfl
theorem Aq3:Ab Try.prog 197=⟨.other,1,8,[.nilFunc]⟩:=by kernel_rfl
theorem Ayr:Ab Try.prog 198=⟨.other,1,8,[.nilFunc]⟩:=by kernel_rfl
theorem Arx:Ab Try.prog 199=⟨.other,1,8,[.nilFunc]⟩:=by kernel_rfl
theorem Aur:Ab Try.prog 200=⟨.other,1,8,[.nilFunc]⟩:=by kernel_rfl
theorem Aup:Ab Try.prog 201=⟨.other,1,8,[.nilFunc]⟩:=by kernel_rfl
theorem Axv:Ab Try.prog 202=⟨.other,1,8,[.nilFunc]⟩:=by kernel_rfl
theorem Au0:Ab Try.prog 203=⟨.struct [(0,202)],1,8,[.nilFunc]⟩:=by kernel_rfl
theorem Axs:Ab Try.prog 204=⟨.struct [(0,202)],1,8,[.nilFunc]⟩:=by kernel_rfl
theorem Ayv:Ab Try.prog 205=⟨.arr 3 204,3,24,[.nilFunc,.nilFunc,.nilFunc]⟩:=by kernel_rfl
theorem Awq:Ab Try.prog 206=⟨.other,1,8,[.nilFunc]⟩:=by kernel_rfl
theorem Awu:Ab Try.prog 207=⟨.other,1,8,[.pointer none]⟩:=by kernel_rfl
theorem Asc:Ab Try.prog 209=⟨.other,1,8,[.nilFunc]⟩:=by kernel_rfl
theorem Avt:Ab Try.prog 210=⟨.other,1,8,[.nilFunc]⟩:=by kernel_rfl
theorem Axi:Ab Try.prog 211=⟨.other,1,8,[.nilFunc]⟩:=by kernel_rfl
theorem Atm:Ab Try.prog 212=⟨.other,1,8,[.nilFunc]⟩:=by kernel_rfl
theorem Ats:Ab Try.prog 213=⟨.other,1,8,[.nilFunc]⟩:=by kernel_rfl
theorem Aue:Ab Try.prog 214=⟨.other,1,8,[.nilFunc]⟩:=by kernel_rfl
theorem Arj:Ab Try.prog 215=⟨.other,1,8,[.nilFunc]⟩:=by kernel_rfl
theorem Avv:Ab Try.prog 216=⟨.other,1,8,[.nilFunc]⟩:=by kernel_rfl
theorem Ara:Ab Try.prog 217=⟨.other,1,8,[.nilFunc]⟩:=by kernel_rfl
theorem Ar2:Ab Try.prog 218=⟨.other,1,8,[.pointer none]⟩:=by kernel_rfl
theorem Auz:Ab Try.prog 219=⟨.other,1,8,[.nilFunc]⟩:=by kernel_rfl
theorem Avg:Ab Try.prog 220=⟨.other,1,8,[.nilFunc]⟩:=by kernel_rfl
theorem Ayx:Ab Try.prog 221=⟨.other,1,8,[.nilFunc]⟩:=by kernel_rfl
theorem Asg:Ab Try.prog 222=⟨.other,1,8,[.nilFunc]⟩:=by kernel_rfl
theorem Atf:Ab Try.prog 223=⟨.other,1,8,[.nilFunc]⟩:=by kernel_rfl
theorem Aui:Ab Try.prog 224=⟨.struct [(0,22),(1,22),(2,22)],3,72,[.slice none 0 0,.slice none 0 0,.slice none 0 0]⟩:=by kernel_rfl
theorem Ax4:Ab Try.prog 225=⟨.other,1,8,[.nilFunc]⟩:=by kernel_rfl
theorem Atp:Ab Try.prog 226=⟨.other,1,8,[.nilFunc]⟩:=by kernel_rfl
theorem Aw4:Ab Try.prog 227=⟨.other,1,8,[.nilFunc]⟩:=by kernel_rfl
theorem Avh:Ab Try.prog 228=⟨.other,1,8,[.nilFunc]⟩:=by kernel_rfl
theorem Axr:Ab Try.prog 229=⟨.other,1,8,[.nilFunc]⟩:=by kernel_rfl
theorem As3:Ab Try.prog 230=⟨.other,1,8,[.nilFunc]⟩:=by kernel_rfl
theorem Aum:Ab Try.prog 231=⟨.arr 2 3,2,16,[.int .i64 0,.int .i64 0]⟩:=by kernel_rfl
theorem Au7:Ab Try.prog 233=⟨.other,1,8,[.nilFunc]⟩:=by kernel_rfl
theorem Aun:Ab Try.prog 234=⟨.other,1,8,[.nilFunc]⟩:=by kernel_rfl
theorem As1:Ab Try.prog 235=⟨.mp 256 258,1,8,[.map none]⟩:=by kernel_rfl
theorem Att:Ab Try.prog 236=⟨.struct [(0,49),(2,235)],3,56,[.slice none 0 0,.slice none 0 0,.map none]⟩:=by kernel_rfl
theorem Ar1:Ab Try.prog 237=⟨.struct [(0,49),(2,235)],3,56,[.slice none 0 0,.slice none 0 0,.map none]⟩:=by kernel_rfl
theorem Avp:Ab Try.prog 238=⟨.other,1,8,[.nilFunc]⟩:=by kernel_rfl
theorem Aw2:Ab Try.prog 239=⟨.other,1,8,[.nilFunc]⟩:=by kernel_rfl
theorem Aw5:Ab Try.prog 240=⟨.other,1,8,[.nilFunc]⟩:=by kernel_rfl
theorem Aw9:Ab Try.prog 241=⟨.other,1,8,[.nilFunc]⟩:=by kernel_rfl
theorem Auf:Ab Try.prog 242=⟨.other,1,8,[.nilFunc]⟩:=by kernel_rfl
theorem Aw8:Ab Try.prog 243=⟨.other,1,8,[.nilFunc]⟩:=by kernel_rfl
theorem Au4:Ab Try.prog 244=⟨.other,1,8,[.nilFunc]⟩:=by kernel_rfl
theorem Auw:Ab Try.prog 245=⟨.other,1,8,[.nilFunc]⟩:=by kernel_rfl
theorem Av8:Ab Try.prog 247=⟨.other,1,8,[.nilFunc]⟩:=by kernel_rfl
theorem Awo:Ab Try.prog 248=⟨.other,1,8,[.nilFunc]⟩:=by kernel_rfl
theorem Ax0:Ab Try.prog 249=⟨.other,1,8,[.nilFunc]⟩:=by kernel_rfl
theorem Arc:Ab Try.prog 250=⟨.other,1,8,[.nilFunc]⟩:=by kernel_rfl
theorem Auh:Ab Try.prog 251=⟨.other,1,8,[.nilFunc]⟩:=by kernel_rfl
theorem Avc:Ab Try.prog 252=⟨.other,1,8,[.nilFunc]⟩:=by kernel_rfl
theorem Axg:Ab Try.prog 253=⟨.other,1,8,[.nilFunc]⟩:=by kernel_rfl
theorem Av6:Ab Try.prog 254=⟨.other,1,8,[.nilFunc]⟩:=by kernel_rfl
theorem Awl:Ab Try.prog 255=⟨.struct [(0,58),(5,3),(6,166)],14,112,[.int .i64 0,.int .i64 0,.int .i64 0,.int .i64 0,.int .i64 0,.int .i64 0,.int .i64 0,.int .i64 0,.int .i64 0,.int .i64 0,.int .i64 0,.int .i64 0,.int .i64 0,.int .i64 0]⟩:=by kernel_rfl
theorem Axu:Ab Try.prog 256=⟨.struct [(0,58),(5,3),(6,166)],14,112,[.int .i64 0,.int .i64 0,.int .i64 0,.int .i64 0,.int .i64 0,.int .i64 0,.int .i64 0,.int .i64 0,.int .i64 0,.int .i64 0,.int .i64 0,.int .i64 0,.int .i64 0,.int .i64 0]⟩:=by kernel_rfl
theorem Aua:Ab Try.prog 257=⟨.struct [(0,166),(8,4)],9,72,[.int .i64 0,.int .i64 0,.int .i64 0,.int .i64 0,.int .i64 0,.int .i64 0,.int .i64 0,.int .i64 0,.bool false]⟩:=by kernel_rfl
theorem Ar3:Ab Try.prog 258=⟨.struct [(0,166),(8,4)],9,72,[.int .i64 0,.int .i64 0,.int .i64 0,.int .i64 0,.int .i64 0,.int .i64 0,.int .i64 0,.int .i64 0,.bool false]⟩:=by kernel_rfl
theorem Atz:Ab Try.prog 260=⟨.other,1,8,[.nilFunc]⟩:=by kernel_rfl
theorem Axb:Ab Try.prog 261=⟨.other,1,8,[.nilFunc]⟩:=by kernel_rfl
theorem Ass:Ab Try.prog 262=⟨.other,1,8,[.nilFunc]⟩:=by kernel_rfl
theorem Aw3:Ab Try.prog 263=⟨.other,1,8,[.nilFunc]⟩:=by kernel_rfl
theorem Ayz:Ab Try.prog 264=⟨.other,1,8,[.nilFunc]⟩:=by kernel_rfl
theorem Axt:Ab Try.prog 265=⟨.struct [(0,3),(1,3)],2,16,[.int .i64 0,.int .i64 0]⟩:=by kernel_rfl
theorem Ayw:Ab Try.prog 267=⟨.other,1,8,[.nilFunc]⟩:=by kernel_rfl
theorem Awn:Ab Try.prog 268=⟨.other,1,8,[.nilFunc]⟩:=by kernel_rfl
theorem As8:Ab Try.prog 269=⟨.other,1,8,[.nilFunc]⟩:=by kernel_rfl
theorem At1:Ab Try.prog 270=⟨.other,1,8,[.nilFunc]⟩:=by kernel_rfl
theorem Av7:Ab Try.prog 271=⟨.other,1,8,[.nilFunc]⟩:=by kernel_rfl
theorem Asd:Ab Try.prog 272=⟨.other,1,8,[.nilFunc]⟩:=by kernel_rfl
theorem As7:Ab Try.prog 273=⟨.struct [(0,272)],1,8,[.nilFunc]⟩:=by kernel_rfl
theorem As9:Ab Try.prog 274=⟨.struct [(0,272)],1,8,[.nilFunc]⟩:=by kernel_rfl
theorem Avw:Ab Try.prog 275=⟨.arr 2 274,2,16,[.nilFunc,.nilFunc]⟩:=by kernel_rfl
theorem Auu:Ab Try.prog 276=⟨.other,1,8,[.nilFunc]⟩:=by kernel_rfl
theorem Ard:Ab Try.prog 277=⟨.other,1,8,[.nilFunc]⟩:=by kernel_rfl
theorem Arg:Ab Try.prog 278=⟨.other,1,8,[.nilFunc]⟩:=by kernel_rfl
theorem Axf:Ab Try.prog 279=⟨.other,1,8,[.pointer none]⟩:=by kernel_rfl
theorem Aig:Ab Try.prog 280=⟨.mp 289 3,1,8,[.map none]⟩:=by kernel_rfl
theorem Asj:Ab Try.prog 281=⟨.struct [(0,86),(6,3),(7,3),(8,280)],9,104,[.int .i64 0,.int .i64 0,.int .i64 0,.int .i64 0,.slice none 0 0,.slice none 0 0,.int .i64 0,.int .i64 0,.map none]⟩:=by kernel_rfl
theorem Ave:Ab Try.prog 282=⟨.struct [(0,86),(6,3),(7,3),(8,280)],9,104,[.int .i64 0,.int .i64 0,.int .i64 0,.int .i64 0,.slice none 0 0,.slice none 0 0,.int .i64 0,.int .i64 0,.map none]⟩:=by kernel_rfl
theorem Auk:Ab Try.prog 283=⟨.other,1,8,[.nilFunc]⟩:=by kernel_rfl
theorem Ayh:Ab Try.prog 284=⟨.struct [(0,283)],1,8,[.nilFunc]⟩:=by kernel_rfl
theorem Qw:Ab Try.prog 285=⟨.struct [(0,283)],1,8,[.nilFunc]⟩:=by kernel_rfl
theorem Ash:Ab Try.prog 286=⟨.arr 4 285,4,32,[.nilFunc,.nilFunc,.nilFunc,.nilFunc]⟩:=by kernel_rfl
theorem As0:Ab Try.prog 287=⟨.other,1,8,[.nilFunc]⟩:=by kernel_rfl
theorem Asq:Ab Try.prog 288=⟨.struct [(0,175),(5,3)],6,48,[.int .i64 0,.int .i64 0,.int .i64 0,.int .i64 0,.int .i64 0,.int .i64 0]⟩:=by kernel_rfl
theorem Aqv:Ab Try.prog 289=⟨.struct [(0,175),(5,3)],6,48,[.int .i64 0,.int .i64 0,.int .i64 0,.int .i64 0,.int .i64 0,.int .i64 0]⟩:=by kernel_rfl
theorem Ax8:Ab Try.prog 290=⟨.other,1,8,[.nilFunc]⟩:=by kernel_rfl
theorem Ax3:Ab Try.prog 291=⟨.other,1,8,[.nilFunc]⟩:=by kernel_rfl
theorem Ay2:Ab Try.prog 292=⟨.other,1,8,[.pointer none]⟩:=by kernel_rfl
theorem Axl:Ab Try.prog 293=⟨.other,1,8,[.nilFunc]⟩:=by kernel_rfl
theorem Atn:Ab Try.prog 294=⟨.other,1,8,[.nilFunc]⟩:=by kernel_rfl
theorem Ayy:Ab Try.prog 295=⟨.other,1,8,[.nilFunc]⟩:=by kernel_rfl
theorem Aws:Ab Try.prog 296=⟨.other,1,8,[.nilFunc]⟩:=by kernel_rfl
theorem Aym:Ab Try.prog 297=⟨.other,1,8,[.nilFunc]⟩:=by kernel_rfl
theorem Ar9:Ab Try.prog 298=⟨.other,1,8,[.nilFunc]⟩:=by kernel_rfl
theorem Au9:Ab Try.prog 299=⟨.other,1,8,[.nilFunc]⟩:=by kernel_rfl
theorem Au6:Ab Try.prog 300=⟨.other,1,8,[.nilFunc]⟩:=by kernel_rfl
theorem Avr:Ab Try.prog 301=⟨.other,1,8,[.nilFunc]⟩:=by kernel_rfl
theorem Asw:Ab Try.prog 302=⟨.other,1,8,[.nilFunc]⟩:=by kernel_rfl
theorem Au3:Ab Try.prog 303=⟨.other,1,8,[.nilFunc]⟩:=by kernel_rfl
theorem Arq:Ab Try.prog 304=⟨.other,1,8,[.nilFunc]⟩:=by kernel_rfl
theorem Ayg:Ab Try.prog 305=⟨.other,1,8,[.nilFunc]⟩:=by kernel_rfl
theorem Ata:Ab Try.prog 306=⟨.other,1,8,[.nilFunc]⟩:=by kernel_rfl
theorem Awa:Ab Try.prog 307=⟨.other,1,8,[.nilFunc]⟩:=by kernel_rfl
theorem Au8:Ab Try.prog 308=⟨.other,1,8,[.nilFunc]⟩:=by kernel_rfl
theorem Axh:Ab Try.prog 309=⟨.other,1,8,[.nilFunc]⟩:=by kernel_rfl
theorem Aq5:Ab Try.prog 310=⟨.other,1,8,[.nilFunc]⟩:=by kernel_rfl
theorem Axx:Ab Try.prog 311=⟨.other,1,8,[.nilFunc]⟩:=by kernel_rfl
theorem Arn:Ab Try.prog 312=⟨.struct [(0,3),(1,3),(2,3)],3,24,[.int .i64 0,.int .i64 0,.int .i64 0]⟩:=by kernel_rfl
theorem Ay4:Ab Try.prog 313=⟨.sl 312,1,24,[.slice none 0 0]⟩:=by kernel_rfl
theorem Ayq:Ab Try.prog 315=⟨.other,1,8,[.nilFunc]⟩:=by kernel_rfl
theorem Ath:Ab Try.prog 318=⟨.arr 0 16,0,0,[]⟩:=by kernel_rfl
theorem Aq1:Ab Try.prog 319=⟨.struct [(0,318)],0,0,[]⟩:=by kernel_rfl
theorem Arb:Ab Try.prog 320=⟨.struct [(0,318)],0,0,[]⟩:=by kernel_rfl
theorem Ayp:Ab Try.prog 321=⟨.int .u32,1,4,[.int .u32 0]⟩:=by kernel_rfl
theorem Ax9:Ab Try.prog 322=⟨.int .u8,1,1,[.int .u8 0]⟩:=by kernel_rfl
theorem At7:Ab Try.prog 323=⟨.int .u8,1,1,[.int .u8 0]⟩:=by kernel_rfl
theorem Aw1:Ab Try.prog 324=⟨.other,1,8,[.nilFunc]⟩:=by kernel_rfl
theorem Asn:Ab Try.prog 325=⟨.other,1,8,[.pointer none]⟩:=by kernel_rfl
theorem Arr:Ab Try.prog 326=⟨.int .i32,1,4,[.int .i32 0]⟩:=by kernel_rfl
theorem Arh:Ab Try.prog 327=⟨.int .i32,1,4,[.int .i32 0]⟩:=by kernel_rfl
theorem Arv:Ab Try.prog 328=⟨.struct [(0,12),(1,12),(2,321),(3,322),(4,5),(5,5),(6,323),(7,324),(8,325),(9,326),(10,327)],11,48,[.int .u64 0,.int .u64 0,.int .u32 0,.int .u8 0,.int .u8 0,.int .u8 0,.int .u8 0,.nilFunc,.pointer none,.int .i32 0,.int .i32 0]⟩:=by kernel_rfl
theorem Ayl:Ab Try.prog 329=⟨.struct [(0,12),(1,12),(2,321),(3,322),(4,5),(5,5),(6,323),(7,324),(8,325),(9,326),(10,327)],11,48,[.int .u64 0,.int .u64 0,.int .u32 0,.int .u8 0,.int .u8 0,.int .u8 0,.int .u8 0,.nilFunc,.pointer none,.int .i32 0,.int .i32 0]⟩:=by kernel_rfl
theorem Auq:Ab Try.prog 330=⟨.other,1,8,[.pointer none]⟩:=by kernel_rfl
def Asu:=PLift.up (And.intro @ty1 (And.intro @ty2 (And.intro @ty3 (And.intro @ty4 (And.intro @ty5 (And.intro @ty6 (And.intro @ty7 (And.intro @ty8 (And.intro @Az9 (And.intro @Azm (And.intro @Bbx (And.intro @Ba9 (And.intro @Ay7 (And.intro @Bat (And.intro @Bbp (And.intro @Bad (And.intro @Aq0 (And.intro @Ba8 (And.intro @Bbm (And.intro @Ba0 (And.intro @Bbf (And.intro @Az7 (And.intro @Bac (@Azw))))))))))))))))))))))))
def Asf:=PLift.up (And.intro @Ba6 (And.intro @Bby (And.intro @Az1 (And.intro @Bax (And.intro @Azj (And.intro @Bbg (And.intro @Ay8 (And.intro @Bbb (And.intro @Az5 (And.intro @Aze (And.intro @Bb0 (And.intro @Azz (And.intro @Bba (And.intro @Azu (And.intro @Bbv (And.intro @Azn (And.intro @Az6 (And.intro @Bas (And.intro @Azh (And.intro @Az2 (And.intro @Baz (And.intro @Ba1 (And.intro @Bbk (@Azx))))))))))))))))))))))))
def Awm:=PLift.up (And.intro @Bak (And.intro @Bbe (And.intro @Bbw (And.intro @Bal (And.intro @Baa (And.intro @Bbd (And.intro @Baw (And.intro @Bai (And.intro @Bay (And.intro @Bbo (And.intro @Bbu (And.intro @Ba5 (And.intro @Bag (And.intro @Ban (And.intro @Ba3 (And.intro @Bb4 (And.intro @Azc (And.intro @Azr (And.intro @Az0 (And.intro @Bbq (And.intro @Bbc (And.intro @Bbt (And.intro @Avd (@Ay9))))))))))))))))))))))))
def Aqw:=PLift.up (And.intro @Bab (And.intro @Az4 (And.intro @Azo (And.intro @Bav (And.intro @Azf (And.intro @Azy (And.intro @Aje (And.intro @Ba2 (And.intro @Azl (And.intro @Bb5 (And.intro @Bb2 (And.intro @Baq (And.intro @Az8 (And.intro @Bbs (And.intro @Bbi (And.intro @Ba7 (And.intro @Ati (And.intro @Awx (And.intro @Awc (And.intro @Aub (And.intro @Avl (And.intro @Aux (And.intro @Axq (@Ays))))))))))))))))))))))))
def Aw0:=PLift.up (And.intro @Awd (And.intro @Aqz (And.intro @Au1 (And.intro @Ayb (And.intro @Asi (And.intro @Avi (And.intro @Asr (And.intro @Asx (And.intro @Ayo (And.intro @Ayd (And.intro @Avu (And.intro @Au5 (And.intro @At4 (And.intro @Aru (And.intro @At3 (And.intro @Aro (And.intro @Ava (And.intro @As6 (And.intro @Aqu (And.intro @Asv (And.intro @As2 (And.intro @Arl (And.intro @Awh (@Atj))))))))))))))))))))))))
def Ax6:=PLift.up (And.intro @Asl (And.intro @Ax5 (And.intro @Ark (And.intro @Ax2 (And.intro @Atx (And.intro @Aus (And.intro @Ayc (And.intro @Aul (And.intro @Arp (And.intro @Axz (And.intro @Aww (And.intro @Art (And.intro @Atb (And.intro @Ast (And.intro @Avo (And.intro @Arw (And.intro @Avs (And.intro @Awr (And.intro @Awf (And.intro @Av9 (And.intro @Atw (And.intro @Auy (And.intro @Axo (@Awz))))))))))))))))))))))))
def Axd:=PLift.up (And.intro @Aw6 (And.intro @At9 (And.intro @Atu (And.intro @Awe (And.intro @Avy (And.intro @Atk (And.intro @Auo (And.intro @At6 (And.intro @Aq6 (And.intro @Axa (And.intro @Av2 (And.intro @Awp (And.intro @Atl (And.intro @Awj (And.intro @Atd (And.intro @Avb (And.intro @Aty (And.intro @Avm (And.intro @Arm (And.intro @Avf (And.intro @Avz (And.intro @Aoi (And.intro @Ar6 (@Aw7))))))))))))))))))))))))
def Asm:=PLift.up (And.intro @Arf (And.intro @Axp (And.intro @Arz (And.intro @Asp (And.intro @Ayn (And.intro @Ayu (And.intro @Ayj (And.intro @Av0 (And.intro @Aq7 (And.intro @Aud (And.intro @Avq (And.intro @Ar8 (And.intro @Aq3 (And.intro @Ayr (And.intro @Arx (And.intro @Aur (And.intro @Aup (And.intro @Axv (And.intro @Au0 (And.intro @Axs (And.intro @Ayv (And.intro @Awq (And.intro @Awu (@Asc))))))))))))))))))))))))
def Awi:=PLift.up (And.intro @Avt (And.intro @Axi (And.intro @Atm (And.intro @Ats (And.intro @Aue (And.intro @Arj (And.intro @Avv (And.intro @Ara (And.intro @Ar2 (And.intro @Auz (And.intro @Avg (And.intro @Ayx (And.intro @Asg (And.intro @Atf (And.intro @Aui (And.intro @Ax4 (And.intro @Atp (And.intro @Aw4 (And.intro @Avh (And.intro @Axr (And.intro @As3 (And.intro @Aum (And.intro @Au7 (@Aun))))))))))))))))))))))))
def Aug:=PLift.up (And.intro @As1 (And.intro @Att (And.intro @Ar1 (And.intro @Avp (And.intro @Aw2 (And.intro @Aw5 (And.intro @Aw9 (And.intro @Auf (And.intro @Aw8 (And.intro @Au4 (And.intro @Auw (And.intro @Av8 (And.intro @Awo (And.intro @Ax0 (And.intro @Arc (And.intro @Auh (And.intro @Avc (And.intro @Axg (And.intro @Av6 (And.intro @Awl (And.intro @Axu (And.intro @Aua (And.intro @Ar3 (@Atz))))))))))))))))))))))))
def Aqe:=PLift.up (And.intro @Axb (And.intro @Ass (And.intro @Aw3 (And.intro @Ayz (And.intro @Axt (And.intro @Ayw (And.intro @Awn (And.intro @As8 (And.intro @At1 (And.intro @Av7 (And.intro @Asd (And.intro @As7 (And.intro @As9 (And.intro @Avw (And.intro @Auu (And.intro @Ard (And.intro @Arg (And.intro @Axf (And.intro @Aig (And.intro @Asj (And.intro @Ave (And.intro @Auk (And.intro @Ayh (@Qw))))))))))))))))))))))))
def Aos:=PLift.up (And.intro @Ash (And.intro @As0 (And.intro @Asq (And.intro @Aqv (And.intro @Ax8 (And.intro @Ax3 (And.intro @Ay2 (And.intro @Axl (And.intro @Atn (And.intro @Ayy (And.intro @Aws (And.intro @Aym (And.intro @Ar9 (And.intro @Au9 (And.intro @Au6 (And.intro @Avr (And.intro @Asw (And.intro @Au3 (And.intro @Arq (And.intro @Ayg (And.intro @Ata (And.intro @Awa (And.intro @Au8 (@Axh))))))))))))))))))))))))
def Ao8:=PLift.up (And.intro @Aq5 (And.intro @Axx (And.intro @Arn (And.intro @Ay4 (And.intro @Ayq (And.intro @Ath (And.intro @Aq1 (And.intro @Arb (And.intro @Ayp (And.intro @Ax9 (And.intro @At7 (And.intro @Aw1 (And.intro @Asn (And.intro @Arr (And.intro @Arh (And.intro @Arv (And.intro @Ayl (@Auq))))))))))))))))))
def Auv:=PLift.up (And.intro Asu.down (And.intro Asf.down (And.intro Awm.down (And.intro Aqw.down (And.intro Aw0.down (And.intro Ax6.down (And.intro Axd.down (And.intro Asm.down (And.intro Awi.down (And.intro Aug.down (And.intro Aqe.down (And.intro Aos.down (Ao8.down)))))))))))))
theorem amT:type_of% Auv.down:=Auv.down
end AM.Try
end
/- The program's tables: a cell, the strength at a point. -/
section
namespace AM.Try
open Go AM AM.Wort Go.Proofs
open Nat renaming reduceLT→sA,reduceAdd→sB,reduceMul→sC,reduceSub→sD,reduceLeDiff→sE,reduceEqDiff→sF,reduceBEq→sG
open Int renaming reduceAdd→sH,reduceSub→sI,reduceMul→sJ,reduceLT→sK,reduceLE→sL,reduceNeg→sM,reduceToNat→sN,reduceEq→sO
set_option maxRecDepth 100000
set_option maxHeartbeats 8000000
theorem Q8 (n lo hi:Int):Bf Try.prog 208 [i64 n,i64 lo,i64 hi] (bl (inB n lo hi)):=by
  refine Au (v:=[]) (q:=[]) (N:=15) (rs:=[.tmp 6]) Try.func208 rfl rfl rfl rfl rfl ?_
  refine Af fun K1 hK1=>?_
  simp (disch:=omega) only [amL,sA,sB]
  refine hK1 _ ?_
  refine Af fun K2 hK2=>?_
  simp (disch:=omega) only [amL,amT,sA,sF,↓reduceIte,reduceCtorEq]
  repeat' first | (refine B2 (fun h=>?_) (fun h=>?_) <;> simp (disch:=omega) only [h,amL,amT,sA,sF,↓reduceIte,reduceCtorEq]) | (refine Ba (fun h=>?_) (fun h=>?_) <;> simp (disch:=omega) only [h,amL,amT,sA,sB,sC,sD,sE,sF,sG,sH,sI,sJ,sK,sL,sM,sN,sO,↓reduceIte,reduceCtorEq])
  all_goals
   skip
   refine hK2 _ ?_
   refine Ae ?_
   try simp (disch:=omega) only [amL,↓reduceIte]
   simp [inB,h]
theorem Apr (r:Rng) (n:Int):Bf Try.prog 212 [avR r,i64 n] (bl (Vk r n)):=by
  refine Au (v:=[]) (q:=[]) (N:=11) (rs:=[.tmp 4]) Try.func212 rfl rfl rfl rfl rfl ?_
  refine Af fun K1 hK1=>?_
  simp (disch:=omega) only [amL,sA,sB,↓reduceIte]
  refine hK1 _ ?_
  refine Af fun K2 hK2=>?_
  simp (disch:=omega) only [amL,amT,sA,sF,↓reduceIte,reduceCtorEq]
  repeat' first | (refine Am (by kernel_rfl) rfl (Q8 _ _ _) (by first | exact .inl rfl | exact .inr (.inl rfl)) ?_ ; simp (disch:=omega) only [amL,sA,↓reduceIte])
  refine hK2 _ ?_
  refine Ae ?_
  try simp (disch:=omega) only [amL,↓reduceIte]
  rfl
theorem Aah (r o:Rng):Bf Try.prog 190 [avR r,avR o] (bl (decide (o.lo≤o.hi)&&(Vk r o.lo&&Vk r o.hi))):=by
  refine Au (v:=[]) (q:=[]) (N:=22) (rs:=[.tmp 4]) Try.func190 rfl rfl rfl rfl rfl ?_
  refine Af fun K1 hK1=>?_
  simp (disch:=omega) only [amL,sA,sB,sF,↓reduceIte,reduceCtorEq]
  refine hK1 _ ?_
  refine Af fun K2 hK2=>?_
  simp (disch:=omega) only [amL,amT,sA,sF,↓reduceIte,reduceCtorEq]
  repeat' first | (refine B2 (fun h=>?_) (fun h=>?_) <;> simp (disch:=omega) only [h,amL,amT,sA,sB,sF,↓reduceIte,reduceCtorEq]) | (refine Ba (fun h=>?_) (fun h=>?_) <;> simp (disch:=omega) only [h,amL,amT,sA,sB,sF,↓reduceIte,reduceCtorEq]) | (refine Am (by kernel_rfl) rfl (Apr _ _) (by first | exact .inl rfl | exact .inr (.inl rfl)) ?_ ; simp (disch:=omega) only [amL,sA,sF,↓reduceIte])
  all_goals
   skip
   refine hK2 _ ?_
   refine Ae ?_
   try simp (disch:=omega) only [amL,↓reduceIte]
   all_goals first | (simp_all; done) | (simp_all; intros; omega)
theorem Ael (l:List Int) (hl:0 < l.length) (hl2:l.length < 1000000):Bf Try.prog 189 [isl l] (avR ⟨l.getD 0 0,Hg l⟩):=by
  refine Au (v:=[]) (q:=[]) (N:=13) (rs:=[.cell 2 265]) Try.func189 rfl rfl rfl rfl rfl ?_
  have e:((l.length:Int) - 1).toNat=l.length - 1:=by omega
  refine Af fun K1 hK1=>?_
  simp (disch:=omega) only [amL,amT,sA,sB,↓reduceIte]
  refine hK1 _ ?_
  refine Aa fun K2 hK2=>?_
  refine Bk (by kernel_rfl) (by kernel_rfl) ?_
  simp (disch:=omega) only [B1,amL,amT,sA,sB,sE,sF,sL,sN,↓reduceIte,reduceCtorEq]
  refine hK2 _ ?_
  refine Ae ?_
  try simp (disch:=omega) only [amL,amT,sB,sF,↓reduceIte]
  all_goals first | (simp only [Hg,e]; done) | trace_state
theorem Agw {l:List Int} {n:Int} {k:Nat} (hc:Jk l n k (l.length - k)=Bw l n) (h:¬ (k+2 < l.length∧l.getD (k+1) 0≤n)):Bw l n=k:=by
  rw [← hc]
  cases l.length - k with
  | zero=>rfl
  | succ f=>unfold Jk; rw [if_neg h]
theorem Aga {l:List Int} {n:Int} {k:Nat} (hc:Jk l n k (l.length - k)=Bw l n) (h1:k+2 < l.length) (h2:l.getD (k+1) 0≤n):Jk l n (k+1) (l.length - (k+1))=Bw l n:=by
  rw [← hc,show l.length - k=(l.length - (k+1))+1 by omega]
  conv=>rhs; unfold Jk
  rw [if_pos ⟨h1,h2⟩]
theorem Aln (l:List Int) (n:Int) (hl:2≤l.length) (hl2:l.length < 1000000):Bf Try.prog 219 [isl l,i64 n] (i64 (Bw l n:Nat)):=by
  refine Au (v:=[]) (q:=[]) (N:=23) (rs:=[.tmp 4]) Try.func219 rfl rfl rfl rfl rfl ?_
  refine Af fun K1 hK1=>?_
  simp (disch:=omega) only [amL,sA,sB]
  refine hK1 _ ?_
  refine Af fun K2 hK2=>?_
  simp (disch:=omega) only [amL,sA]
  refine hK2 _ ?_
  refine Aa fun K3 hK3=>?_
  refine Ai ?_
  skip
  refine A7 (α:=Nat) (fun k=>⟨T [(0,isl l),(1,i64 n),(5,i64 (k:Int))],O []⟩) (fun k=>l.length - k) (fun k=>k+2≤l.length∧Jk l n k (l.length - k)=Bw l n) 0 ?_ ?_ (fun k hx4 K4 hK4=>?_)
  · exact ⟨by omega,rfl⟩
  · refine B7 ?_ ?_ ?_ ?_ <;> (try simp (disch:=omega) only [amL,sF,↓reduceIte,reduceCtorEq]); all_goals first | rfl | trace_state
  obtain ⟨hk,hc⟩:=hx4
  refine Aa fun K5 hK5=>?_
  refine Af fun K6 hK6=>?_
  simp (disch:=omega) only [amL,amT,sA,sF,↓reduceIte,reduceCtorEq]
  repeat' first | (refine B2 (fun h=>?_) (fun h=>?_) <;> simp (disch:=omega) only [h,B1,amL,amT,sA,sF,↓reduceIte,reduceCtorEq]) | (refine Ba (fun h=>?_) (fun h=>?_) <;> simp (disch:=omega) only [h,B1,amL,amT,sA,sB,sC,sD,sE,sF,sG,sH,sI,sJ,sK,sL,sM,sN,sO,↓reduceIte,reduceCtorEq])
  all_goals
   skip
   refine hK6 _ ?_
   refine Ag rfl (fun h=>MT.x ?_) (fun h=>ME.x ?_)
   all_goals
    first
    |refine MT.mk ?_
     first
     |exact Bool.noConfusion h
     |skip
      try simp only [nrm] at h
      refine Aj ?_
      refine hK5 _ ?_
    |refine ME.mk ?_
     first
     |exact Bool.noConfusion h
     |skip
      try simp only [nrm] at h
      refine Bg ?_
      refine hK3 _ ?_
      refine Af fun K7 hK7=>?_
      simp (disch:=omega) only [amL,sA,sF,↓reduceIte,reduceCtorEq]
      refine hK7 _ ?_
      refine Ae ?_
      try simp (disch:=omega) only [amL,↓reduceIte]
      all_goals first | (refine congrArg (fun (x:Nat)=>i64 (x:Int)) (Agw hc ?_).symm ; rintro ⟨q1,q2⟩ ; first | omega | (simp_all; done) | (simp_all; omega)) | (omega)
   all_goals
    skip
    refine Ai ?_
    refine Ac ?_
    simp (disch:=omega) only [amL,amT,sA,sF,↓reduceIte,reduceCtorEq]
    refine hK4 (k+1) _ ?_ ?_ (B7 ?_ ?_ ?_ ?_)
    all_goals (try simp (disch:=omega) only [amL,sF,↓reduceIte,reduceCtorEq])
    all_goals first | omega | exact ⟨by omega,Aga hc (by omega) (by first | omega | simp_all)⟩ | trace_state
theorem Ak4 {l:List (Int × Int × Int)} {t:Tbl} {k:Nat} (h:k < l.length):J3 t (l.take (k+1))=J3 t (l.take k)+Q1 t (l.getD k default) * (l.getD k default).2.2:=by
  rw [← List.take_append_getElem h,Sl,List.getElem_eq_getD default]
  simp [J3]
theorem Bbn (t:Tbl) (warmth B8:Int) (ht:Hf t) (hp:Ak2 t warmth B8):Bf Try.prog 214 [avQ t,i64 warmth,i64 B8] (i64 (atX t warmth B8)):=by
  obtain ⟨c1,c2,c3,c4,c5,c6,c7,c8,c9,d1,d2,d3⟩:=Ajm ht hp
  have nw:=ht.nw
  have nm:=ht.nm
  have nv:=ht.nv
  have hA:=Alm ht hp
  unfold atX at hA ⊢
  dsimp only at hA ⊢
  have hq:=Aeg (t:=t) (wide:=t.w.getD (Bw t.w warmth+1) 0 - t.w.getD (Bw t.w warmth) 0) (long:=t.m.getD (Bw t.m B8+1) 0 - t.m.getD (Bw t.m B8) 0) (w:=warmth - t.w.getD (Bw t.w warmth) 0) (m:=B8 - t.m.getD (Bw t.m B8) 0) c1 c2 (by omega) (by omega) (by omega) (by omega) (by omega) (by omega)
  have hs:=Zt ht (wide:=t.w.getD (Bw t.w warmth+1) 0 - t.w.getD (Bw t.w warmth) 0) (long:=t.m.getD (Bw t.m B8+1) 0 - t.m.getD (Bw t.m B8) 0) (w:=warmth - t.w.getD (Bw t.w warmth) 0) (m:=B8 - t.m.getD (Bw t.m B8) 0) c1 c2 (by omega) (by omega) (by omega) (by omega) (by omega) (by omega)
  revert hA hq hs c1 c2 c3 c4 c5 c6 c7 c8 c9 d1 d2 d3
  obtain ⟨I,hI⟩:∃ x,x=Bw t.w warmth:=⟨_,rfl⟩
  obtain ⟨K,hK⟩:∃ x,x=Bw t.m B8:=⟨_,rfl⟩
  obtain ⟨W0,hW0⟩:∃ x,x=t.w.getD I 0:=⟨_,rfl⟩
  obtain ⟨W1,hW1⟩:∃ x,x=t.w.getD (I+1) 0:=⟨_,rfl⟩
  obtain ⟨M0,hM0⟩:∃ x,x=t.m.getD K 0:=⟨_,rfl⟩
  obtain ⟨M1,hM1⟩:∃ x,x=t.m.getD (K+1) 0:=⟨_,rfl⟩
  rw [← hI,← hK,← hW0,← hW1,← hM0,← hM1]
  intro c1 c2 c3 c4 c5 c6 c7 c8 c9 d1 d2 d3 hA hq hs
  have b1:=Ep (a:=W1 - W0 - (warmth - W0)) (b:=M1 - M0 - (B8 - M0)) (A:=40) (B:=60) (by omega) (by omega) (by omega) (by omega)
  have b2:=Ep (a:=warmth - W0) (b:=M1 - M0 - (B8 - M0)) (A:=40) (B:=60) (by omega) (by omega) (by omega) (by omega)
  have b3:=Ep (a:=W1 - W0 - (warmth - W0)) (b:=B8 - M0) (A:=40) (B:=60) (by omega) (by omega) (by omega) (by omega)
  have b4:=Ep (a:=warmth - W0) (b:=B8 - M0) (A:=40) (B:=60) (by omega) (by omega) (by omega) (by omega)
  have b5:=Ep (a:=W1 - W0) (b:=M1 - M0) (A:=40) (B:=60) (by omega) (by omega) (by omega) (by omega)
  have b6:0 < (W1 - W0) * (M1 - M0):=Int.mul_pos (by omega) (by omega)
  have b7:2 * (W1 - W0) * (M1 - M0)=2 * ((W1 - W0) * (M1 - M0)):=Int.mul_assoc _ _ _
  have w1:IntKind.i64.wrap ((W1 - W0 - (warmth - W0)) * (M1 - M0 - (B8 - M0)))=_:=Gk (by omega) (by omega)
  have w2:IntKind.i64.wrap ((warmth - W0) * (M1 - M0 - (B8 - M0)))=_:=Gk (by omega) (by omega)
  have w3:IntKind.i64.wrap ((W1 - W0 - (warmth - W0)) * (B8 - M0))=_:=Gk (by omega) (by omega)
  have w4:IntKind.i64.wrap ((warmth - W0) * (B8 - M0))=_:=Gk (by omega) (by omega)
  have w5:IntKind.i64.wrap ((W1 - W0) * (M1 - M0))=_:=Gk (by omega) (by omega)
  have w6:IntKind.i64.wrap (2 * (W1 - W0) * (M1 - M0))=_:=Gk (by omega) (by omega)
  have tI:((I:Int)+1).toNat=I+1:=by omega
  have hq4:(Jo I K (W1 - W0) (M1 - M0) (warmth - W0) (B8 - M0)).length=4:=rfl
  have tK:((K:Int)+1).toNat=K+1:=by omega
  refine Au (v:=[]) (q:=[]) (N:=131) (rs:=[.tmp 6]) Try.func214 rfl rfl rfl rfl rfl ?_
  refine Af fun K1 hK1=>?_
  simp (disch:=omega) only [amL,sA,sB,↓reduceIte]
  refine hK1 _ ?_
  refine Aa fun K2 hK2=>?_
  refine Bk (by kernel_rfl) (by kernel_rfl) ?_
  simp (disch:=omega) only [amL,amT,sA,sF,↓reduceIte,reduceCtorEq]
  repeat' first | (refine Am (by kernel_rfl) rfl (by first | exact Aln t.w warmth nw.1 (by omega) | exact Aln t.m B8 nm.1 (by omega)) (by first | exact .inl rfl | exact .inr (.inl rfl)) ?_ ; simp (disch:=omega) only [← hI,← hK,amL,amT,sA,sF,↓reduceIte,reduceCtorEq])
  refine hK2 _ ?_
  refine Aa fun K3 hK3=>?_
  refine Bk (by kernel_rfl) (by kernel_rfl) ?_
  simp (disch:=omega) only [B1,← hW0,← hM0,amL,amT,sA,sF,↓reduceIte,reduceCtorEq]
  refine hK3 _ ?_
  refine Aa fun K4 hK4=>?_
  refine Bk (by kernel_rfl) (by kernel_rfl) ?_
  simp (disch:=omega) only [tI,tK,B1,← hW0,← hW1,← hM0,← hM1,amL,amT,sA,sF,↓reduceIte,reduceCtorEq]
  refine hK4 _ ?_
  refine Af fun K5 hK5=>?_
  simp (disch:=omega) only [amL,sA]
  refine hK5 _ ?_
  refine Aa fun K6 hK6=>?_
  refine Aa fun K7 hK7=>?_
  refine Alr 36 ?_
  simp (disch:=omega) only [Aei,Aek,Yk,Pm,Jp,w1,w2,w3,w4,amL,amT,sA,sB,sC,sE,sF,sH,↓reduceIte,reduceCtorEq]
  refine hK7 _ ?_
  refine Ai ?_
  skip
  refine A7 (α:=Nat) (fun k=>⟨T [(3,.ptr 3 0),(7,i64 (I:Int)),(8,i64 (K:Int)),(11,i64 (W1 - W0)),(12,i64 (M1 - M0)),(13,i64 (J3 t ((Jo I K (W1 - W0) (M1 - M0) (warmth - W0) (B8 - M0)).take k))),(98,.p (.sl ((Jo I K (W1 - W0) (M1 - M0) (warmth - W0) (B8 - M0)).map Aou))),(99,i64 4),(100,i64 (k:Int))],O [(3,.cells (cQ t))]⟩) (fun k=>4 - k) (fun k=>k≤4) 0 ?_ ?_ (fun k hx8 K8 hK8=>?_)
  · simp
  · refine B7 ?_ ?_ ?_ ?_ <;> (try simp (disch:=omega) only [amL,sF,↓reduceIte]); all_goals first | rfl | exact ⟨rfl,rfl⟩ | trace_state
  have hk:=hx8
  refine Af fun K9 hK9=>?_
  simp (disch:=omega) only [amL,amT,sA,sF,↓reduceIte]
  refine hK9 _ ?_
  refine Aa fun K10 hK10=>?_
  refine Ag rfl (fun h=>MT.x ?_) (fun h=>ME.x ?_)
  all_goals
   first
   |refine MT.mk ?_
    first
    |exact Bool.noConfusion h
    |skip
     try simp only [nrm] at h
     refine Aj ?_
     refine hK10 _ ?_
   |refine ME.mk ?_
    first
    |exact Bool.noConfusion h
    |skip
     try simp only [nrm] at h
     refine Bg ?_
     refine hK6 _ ?_
     refine Af fun K11 hK11=>?_
     obtain rfl:k=4:=by omega
     have htk:(Jo I K (W1 - W0) (M1 - M0) (warmth - W0) (B8 - M0)).take 4=Jo I K (W1 - W0) (M1 - M0) (warmth - W0) (B8 - M0):=rfl
     have hdv:(2 * J3 t (Jo I K (W1 - W0) (M1 - M0) (warmth - W0) (B8 - M0))+(W1 - W0) * (M1 - M0)).tdiv (2 * (W1 - W0) * (M1 - M0))=_:=Int.tdiv_eq_ediv_of_nonneg (by omega)
     have wd:IntKind.i64.wrap ((2 * J3 t (Jo I K (W1 - W0) (M1 - M0) (warmth - W0) (B8 - M0))+(W1 - W0) * (M1 - M0)) / (2 * (W1 - W0) * (M1 - M0)))=_:=Gk (by omega) (by omega)
     simp (disch:=omega) only [htk,hdv,wd,w5,w6,amL,amT,sA,sF,sH,sK,↓reduceIte]
     refine hK11 _ ?_
     refine Ae ?_
     try simp (disch:=omega) only [amL,↓reduceIte]
     all_goals first | rfl | trace_state
  all_goals
   skip
   refine Aa fun K12 hK12=>?_
   refine Ai ?_
   refine Af fun K13 hK13=>?_
   simp (disch:=omega) only [Ags,amL,amT,sA,sB,sF,↓reduceIte]
   refine hK13 _ ?_
   refine Bk (by kernel_rfl) (by kernel_rfl) ?_
   have hk4:k < (Jo I K (W1 - W0) (M1 - M0) (warmth - W0) (B8 - M0)).length:=by show k < 4; omega
   obtain ⟨p,hpe⟩:∃ p,p=(Jo I K (W1 - W0) (M1 - M0) (warmth - W0) (B8 - M0)).getD k default:=⟨_,rfl⟩
   have hpo:Ut t p:=hq p (by rw [hpe,← List.getElem_eq_getD (h:=hk4)]; exact List.getElem_mem _)
   have hpm:=Aat ht hpo
   have hrow:=(ht.row (i:=p.1.toNat) (by have:=hpo.1; omega)).1
   have htk:=Ak4 (t:=t) hk4
   rw [← hpe] at htk
   have hsb:=Vg ht ((Jo I K (W1 - W0) (M1 - M0) (warmth - W0) (B8 - M0)).take k) (fun q hq2=>hq q (List.mem_of_mem_take hq2))
   have hln:(((Jo I K (W1 - W0) (M1 - M0) (warmth - W0) (B8 - M0)).take k).length:Int)≤4:=by rw [List.length_take]; show ((min k 4:Nat):Int)≤4; omega
   obtain ⟨⟨p1,p2⟩,⟨p3,p4⟩,p5,p6⟩:=hpo
   have wv:IntKind.i64.wrap ((t.v.getD p.1.toNat []).getD p.2.1.toNat 0 * p.2.2)=Q1 t p * p.2.2:=Gk (by show _≤Q1 t p * p.2.2; omega) (by show Q1 t p * p.2.2 < _; omega)
   simp (disch:=omega) only [← hpe,wv,hrow,B1,C8,amL,amT,sA,sF,↓reduceIte,reduceCtorEq]
   refine hK12 _ ?_
   refine Ac ?_
   simp (disch:=omega) only [amL,amT,sA,sF,↓reduceIte]
   refine hK8 (k+1) _ ?_ ?_ (B7 ?_ ?_ ?_ ?_)
   all_goals (try simp (disch:=omega) only [amL,sE,sF,↓reduceIte])
   all_goals first | omega | exact congrArg i64 htk.symm | trace_state
theorem Av1:ElT Try.prog 22 3 i64 V3:=Ad4 (P:=Try.prog) (tS:=22) (tE:=3) (f:=fun n=>iv n) (by simp only [amT]) (by simp only [amT]; rfl) (by simp only [amT])
theorem elI:ElT Try.prog 23 22 isl Hh:=Ad4 (P:=Try.prog) (tS:=23) (tE:=22) (f:=fun (l:List Int)=>.sl (l.map V3)) (by simp only [amT]) (by simp only [amT]; rfl) (by simp only [amT])
theorem Aya:Qh Try.prog 22 3 162 3 4 193 159:=⟨⟨_,Try.func193,rfl,rfl,rfl,by kernel_rfl⟩,⟨_,Try.func159,rfl,rfl,rfl,by kernel_rfl⟩⟩
theorem sfI:Qh Try.prog 23 22 156 3 4 218 209:=⟨⟨_,Try.func218,rfl,rfl,rfl,by kernel_rfl⟩,⟨_,Try.func209,rfl,rfl,rfl,by kernel_rfl⟩⟩
theorem At8 : Uh Try.prog "table.go:27" "table.go:28" 22 3 162 4 159 217 205 := ⟨⟨_, Try.func217, rfl, rfl, rfl, by kernel_rfl⟩, ⟨_, Try.func205, rfl, rfl, rfl, by kernel_rfl⟩⟩
theorem afI : Uh Try.prog "table.go:27" "table.go:28" 23 22 156 4 209 210 186 := ⟨⟨_, Try.func210, rfl, rfl, rfl, by kernel_rfl⟩, ⟨_, Try.func186, rfl, rfl, rfl, by kernel_rfl⟩⟩
theorem Aj6 (n:Int):Bf Try.prog 206 [i64 n] (bl (inB n 0 2000)):=by
  refine Au (v:=[]) (q:=[]) (N:=5) (rs:=[.tmp 2]) Try.func206 rfl rfl rfl rfl rfl ?_
  refine Af fun K1 hK1=>?_
  simp (disch:=omega) only [amL,sA]
  refine hK1 _ ?_
  refine Af fun K2 hK2=>?_
  simp (disch:=omega) only [amL,sA,↓reduceIte,reduceCtorEq]
  repeat' first | (refine Am (by kernel_rfl) rfl (Q8 _ _ _) (by first | exact .inl rfl | exact .inr (.inl rfl)) ?_ ; simp (disch:=omega) only [amL,sA,↓reduceIte])
  refine hK2 _ ?_
  refine Ae ?_
  try simp (disch:=omega) only [amL,↓reduceIte]
  all_goals rfl
theorem Aqd (l:List Int) (hl:l.length < 1000000) {os:Nat→Option AO} {bd:Nat}:Bm Try.prog bd (.fn (.func 205) [] []) [isl l,.fn (.func 206) [] []] os fun res os'=>res=bl (l.all fun x=>inB x 0 2000)∧os'=os:=
  Aho Av1 Aya At8 (by simp only [amT]; rfl) (by kernel_rfl) rfl (fun x _=>Aj6 x) hl
theorem Apz (t:Tbl) (l:List Int) (_:t.m.length < 1000000) (hl:l.length < 1000000):Bf Try.prog 184 [avQ t,isl l] (bl (N0 t.m.length l)):=by
  refine Au (v:=[205]) (q:=[]) (N:=15) (rs:=[.tmp 4]) Try.func184 rfl rfl rfl rfl rfl ?_
  refine Af fun K1 hK1=>?_
  simp (disch:=omega) only [amL,sA,sB,↓reduceIte]
  refine hK1 _ ?_
  refine Af fun K2 hK2=>?_
  simp (disch:=omega) only [amL,amT,sA,sF,↓reduceIte,reduceCtorEq]
  repeat' first | (refine B2 (fun h=>?_) (fun h=>?_) <;> simp (disch:=omega) only [h,amL,sA,sF,↓reduceIte,reduceCtorEq]) | (refine Ba (fun h=>?_) (fun h=>?_) <;> simp (disch:=omega) only [h,amL,amT,sA,sB,sC,sD,sE,sF,sG,sH,sI,sJ,sK,sL,sM,sN,sO,↓reduceIte,reduceCtorEq]) | (refine Nh (bd:=15) (by decide) (Aqd l hl) (Ha rfl) (by decide) rfl ?_ ; simp (disch:=omega) only [amL,sA,sF,↓reduceIte])
  all_goals
   skip
   refine hK2 _ ?_
   refine Ae ?_
   try simp (disch:=omega) only [amL,↓reduceIte]
   all_goals first | (simp_all [N0]; done) | trace_state
theorem Akq (t:Tbl) (h1:t.m.length < 1000000) (l:List (List Int)) (hr:∀ r ∈ l,r.length < 1000000) (hl:l.length < 1000000) {os:Nat→Option AO} {bd:Nat}:Bm Try.prog bd (.fn (.func 186) [] []) [.p (slI l),.fn (.func 184) [avQ t] []] os fun res os'=>res=bl (l.all (N0 t.m.length))∧os'=os:=
  Aho elI sfI afI (by simp only [amT]; rfl) (by kernel_rfl) rfl (fun x hx=>Apz t x h1 (hr x hx)) hl
theorem Ap3 {last n most:Int} {nl nm:Nat} {os:Nat→Option AO} {bd:Nat} (hn:os nl=some (.cells [i64 last])) (hm:os nm=some (.cells [i64 most])) :
    Bm Try.prog bd (.fn (.func 207) [] [.ptr nl 0,.ptr nm 0]) [i64 n] os fun res os'=>res=bl (S3 most last n).2∧os'=upd os nl (some (.cells [i64 n])):=by
  refine Bn (v:=[]) (q:=[]) (N:=13) (rs:=[.tmp 4]) Try.func207 rfl (by kernel_rfl) rfl rfl (fun hcl hfree=>?_)
  refine Af fun K1 hK1=>?_
  simp (disch:=omega) only [amL,sA,sB]
  refine hK1 _ ?_
  refine Af fun K2 hK2=>?_
  simp (disch:=omega) only [hn,hm,amL,amT,sA,sF,↓reduceIte,reduceCtorEq]
  repeat' first | (refine Am (by kernel_rfl) rfl (Q8 _ _ _) (by first | exact .inl rfl | exact .inr (.inl rfl)) ?_ ; simp (disch:=omega) only [amL,sA,↓reduceIte])
  refine hK2 _ ?_
  refine Af fun K3 hK3=>?_
  simp (disch:=omega) only [hn,amL,amT,sA,sF,↓reduceIte,reduceCtorEq]
  refine hK3 _ ?_
  refine Af fun K4 hK4=>?_
  simp (disch:=omega) only [amL,sA,sF,↓reduceIte]
  refine hK4 _ ?_
  refine Ae ?_
  try simp (disch:=omega) only [amL]
  refine Az (res:=bl _) (upd os nl (some (.cells [i64 n]))) (by simp (disch:=omega) only [amL,↓reduceIte]; try rfl) (Sub.refl _) (Bc hcl (by rw [Bp,Ax,A8]; exact ⟨AV.lives_p _ _,trivial⟩)) (AV.lives_p _ _) ⟨rfl,rfl⟩
theorem Ao3 {l:List Int} {most:Int} {nl nm:Nat} (hne:nm≠nl):Cv Try.prog (.fn (.func 207) [] [.ptr nl 0,.ptr nm 0]) (fun n=>n=nl∨n=nm) i64 l (fun last os=>os nl=some (.cells [i64 last])∧os nm=some (.cells [i64 most])) (S3 most) where
  live s os h:=by rw [Cl,A8,Ax,Ax,A8,Bz,Bz,h.1,h.2]; exact ⟨trivial,rfl,rfl,trivial⟩
  stable s os os' h h2:=⟨(h2 nl (.inl rfl)).trans h.1,(h2 nm (.inr rfl)).trans h.2⟩
  foot s os n h hn:=by
    rcases hn with rfl | rfl
    · exact ⟨_,h.1,fun m hm=>by simp [AO.clean,AV.clean,AV.clean.cleanL] at hm⟩
    · exact ⟨_,h.2,fun m hm=>by simp [AO.clean,AV.clean,AV.clean.cleanL] at hm⟩
  call s x os bd _ h _:=by
    refine Bm.mono (Ap3 h.1 h.2) ?_
    rintro r os' ⟨rfl,rfl⟩
    exact ⟨rfl,⟨Ak,by rw [Ad hne]; exact h.2⟩,fun n hn=>Ad (fun e=>hn (.inl e))⟩
theorem Aqc {l:List Int} {most:Int} {nl nm:Nat} {os:Nat→Option AO} {bd:Nat} (hl:l.length < 1000000) (hm:most≤1000) (hm0:-1≤most) (hne:nm≠nl) (h:os nl=some (.cells [i64 (-1)])) (h2:os nm=some (.cells [i64 most])) :
    Bm Try.prog bd (.fn (.func 205) [] []) [isl l,.fn (.func 207) [] [.ptr nl 0,.ptr nm 0]] os fun res os'=>res=bl (C4 most (-1) l)∧((∃ z,os' nl=some (.cells [i64 z]))∧os' nm=some (.cells [i64 most]))∧∀ n,¬ (n=nl∨n=nm)→os' n=os n:=by
  refine Bm.mono (Aax Av1 Aya At8 (by simp only [amT]; rfl) hl (Ao3 (most:=most) hne) (fun m hm=>?_) (s:=-1) (bd:=bd) ⟨h,h2⟩) ?_
  · by_cases e:m=nl
    · exact .inl e
    · by_cases e2:m=nm
      · exact .inr e2
      · exfalso
        simp [AV.clean,AV.clean.cleanL] at hm
        omega
  · rintro r os' ⟨h1,⟨h2,h3⟩,h4⟩
    exact ⟨by rw [h1,P7 hm l (-1) (by omega) hm0],⟨⟨_,h2⟩,h3⟩,h4⟩
theorem Ww (l:List Int) (most:Int) (hl:l.length < 1000000) (hm:most≤1000) (hm0:-1≤most):Bf Try.prog 185 [isl l,i64 most] (bl (decide (2≤(l.length:Int))&&C4 most (-1) l)):=by
  refine Au (v:=[205]) (q:=[]) (N:=14) (rs:=[.tmp 4]) Try.func185 rfl rfl rfl rfl rfl ?_
  refine Af fun K1 hK1=>?_
  simp (disch:=omega) only [amL,sA,sB,↓reduceIte,reduceCtorEq]
  refine hK1 _ ?_
  refine Af fun K2 hK2=>?_
  simp (disch:=omega) only [amL,amT,sA,sF,sM,↓reduceIte]
  refine hK2 _ ?_
  refine Af fun K3 hK3=>?_
  simp (disch:=omega) only [amL,amT,sA,sM,↓reduceIte,reduceCtorEq]
  repeat' first | (refine B2 (fun h=>?_) (fun h=>?_) <;> simp (disch:=omega) only [h,amL,sA,sF,sM,↓reduceIte,reduceCtorEq]) | (refine Ba (fun h=>?_) (fun h=>?_) <;> simp (disch:=omega) only [h,amL,amT,sA,sB,sC,sD,sE,sF,sG,sH,sI,sJ,sK,sL,sM,sN,sO,↓reduceIte,reduceCtorEq]) | (refine Be [(9,bl true)] (by decide) (Aqc (l:=l) (most:=most) (nl:=5) (nm:=3) (bd:=14) hl hm hm0 (by decide) rfl rfl) (Ha rfl) (by decide) (fun res os2 hR hcl2 hlv2=>?_) ; obtain ⟨rfl,⟨⟨z,hz⟩,hz2⟩,hfr2⟩:=hR ; simp (disch:=omega) only [amL,sA,sF,sM,↓reduceIte])
  all_goals
   skip
   refine hK3 _ ?_
   refine Ae ?_
   try simp (disch:=omega) only [amL,sM,↓reduceIte]
   all_goals first | (simp_all; done) | (simp_all; omega) | trace_state
theorem Zl (t:Tbl) (ht:Hf t):Bf Try.prog 154 [avQ t] (i64 0):=by
  have nw:=ht.nw
  have nm:=ht.nm
  have nv:=ht.nv
  have hw:=ht.w
  have hm:=ht.m
  have hv:=ht.v
  refine Au (v:=[186]) (q:=[]) (N:=50) (rs:=[.tmp 2]) Try.func154 rfl rfl rfl rfl rfl ?_
  refine Af fun K1 hK1=>?_
  simp (disch:=omega) only [eq_self,amL,sA,↓reduceIte]
  refine hK1 _ ?_
  refine Af fun K2 hK2=>?_
  simp (disch:=omega) only [eq_self,amL,amT,sA,sB,sF,↓reduceIte]
  refine hK2 _ ?_
  refine Aa fun K3 hK3=>?_
  refine Ai ?_
  refine Af fun K4 hK4=>?_
  simp (disch:=omega) only [eq_self,amL,amT,sA,sF,↓reduceIte,reduceCtorEq]
  repeat' first | (refine B2 (fun h=>?_) (fun h=>?_) <;> simp (disch:=omega) only [h,nv,eq_self,decide_false,amL,amT,sA,sF,↓reduceIte,reduceCtorEq]) | (refine Ba (fun h=>?_) (fun h=>?_) <;> simp (disch:=omega) only [h,hw,hm,nv,ne_eq,eq_self,not_true_eq_false,decide_false,amL,amT,sA,sB,sC,sD,sE,sF,sG,sH,sI,sJ,sK,sL,sM,sN,sO,↓reduceIte,reduceCtorEq])
  all_goals
   skip
   refine hK4 _ ?_
   refine Ag rfl (fun h=>MT.x ?_) (fun h=>ME.x ?_)
   all_goals
    first
    |refine MT.mk ?_
     first
     |exact Bool.noConfusion h
     |skip
      try simp only [nrm] at h
      refine Af fun K5 hK5=>?_
      simp (disch:=omega) only [eq_self,amL,sA]
      refine hK5 _ ?_
      refine Ae ?_
      try simp (disch:=omega) only [eq_self,amL,↓reduceIte]
      all_goals first | rfl | (simp_all; done) | (simp_all; omega) | trace_state
    |refine ME.mk ?_
     first
     |exact Bool.noConfusion h
     |skip
      try simp only [nrm] at h
      refine Af fun K6 hK6=>?_
      simp (disch:=omega) only [eq_self,amL,amT,sA,sF,sG,↓reduceIte,reduceCtorEq]
      repeat' first | (refine B2 (fun h=>?_) (fun h=>?_) <;> simp (disch:=omega) only [h,hw,hm,nv,ne_eq,eq_self,not_true_eq_false,decide_false,amL,amT,sA,sB,sC,sD,sE,sF,sG,sH,sI,sJ,sK,sL,sM,sN,sO,↓reduceIte,reduceCtorEq]) | (refine Ba (fun h=>?_) (fun h=>?_) <;> simp (disch:=omega) only [h,nv,ne_eq,eq_self,not_true_eq_false,decide_false,amL,amT,sA,sF,sG,↓reduceIte,reduceCtorEq]) | (refine Am (by kernel_rfl) rfl (by first | exact Ww t.w 40 (by omega) (by omega) (by omega) | exact Ww t.m 60 (by omega) (by omega) (by omega)) (by first | exact .inl rfl | exact .inr (.inl rfl)) ?_ ; simp (disch:=omega) only [hw,hm,eq_self,amL,sA,sF,sM,↓reduceIte]) | (refine Nh (bd:=50) (by decide) (Akq t (by omega) t.v (fun r hr=>by have:=List.all_eq_true.1 hv r hr; simp only [N0,Bool.and_eq_true,decide_eq_true_eq] at this; omega) (by omega)) (Ha rfl) (by decide) rfl ?_ ; simp (disch:=omega) only [eq_self,amL,sA,sF,↓reduceIte])
      all_goals
       skip
       refine hK6 _ ?_
       refine Ag rfl (fun h=>MT.x ?_) (fun h=>ME.x ?_)
       all_goals
        first
        |refine MT.mk ?_
         first
         |exact Bool.noConfusion h
         |skip
          try simp only [nrm] at h
          refine Af fun K7 hK7=>?_
          simp (disch:=omega) only [eq_self,amL,sA]
          refine hK7 _ ?_
          refine Ae ?_
          try simp (disch:=omega) only [eq_self,amL,↓reduceIte]
          all_goals first | rfl | (simp_all; done) | (simp_all; omega) | trace_state
        |refine ME.mk ?_
         first
         |exact Bool.noConfusion h
         |skip
          try simp only [nrm] at h
          refine Aj ?_
          refine hK3 _ ?_
   all_goals
    skip
    refine Af fun K8 hK8=>?_
    simp (disch:=omega) only [eq_self,amL,sA]
    refine hK8 _ ?_
    refine Ae ?_
    try simp (disch:=omega) only [eq_self,amL,↓reduceIte]
    all_goals first | rfl | (simp_all; done) | (simp_all; omega) | trace_state
theorem Wm {a b:Int} (h:a≤b):Qx ⟨a,b⟩=a :: Qx ⟨a+1,b⟩:=by
  unfold Qx
  dsimp only
  rw [show (b+1 - a).toNat=(b+1 - (a+1)).toNat+1 by omega,List.range_succ_eq_map,List.map_cons,List.map_map]
  refine List.cons_eq_cons.2 ⟨by simp,List.map_congr_left fun j _=>?_⟩
  simp only [Function.comp,Nat.succ_eq_add_one,Int.natCast_add,Int.natCast_one]
  omega
theorem Abe {a b:Int} (h:b < a):Qx ⟨a,b⟩=[]:=by
  unfold Qx
  dsimp only
  rw [show (b+1 - a).toNat=0 by omega]; rfl
theorem Aa8 {r:Rng} {x:Int}:x ∈ Qx r↔r.lo≤x∧x≤r.hi:=by
  unfold Qx
  simp only [List.mem_map,List.mem_range]
  constructor
  · rintro ⟨j,h,rfl⟩; omega
  · intro h; exact ⟨(x - r.lo).toNat,by omega,by omega⟩
def R3 (t:Tbl) (w:Rng) (mh y x:Int):List (Int × Int):=((Qx ⟨x,w.hi⟩).map fun x=>(y,atX t x y))++Kv t w ⟨y+1,mh⟩
theorem Al8 {t:Tbl} {w:Rng} {mh y:Int} (h:y≤mh):Kv t w ⟨y,mh⟩=R3 t w mh y w.lo:=by
  unfold Kv R3
  rw [Wm h,List.flatMap_cons]; rfl
theorem Adj {t:Tbl} {w:Rng} {mh y:Int} (h:mh < y):Kv t w ⟨y,mh⟩=[]:=by
  unfold Kv
  rw [Abe h]; rfl
theorem Q9 {t:Tbl} {w:Rng} {mh y x:Int} (h:x≤w.hi):R3 t w mh y x=(y,atX t x y) :: R3 t w mh y (x+1):=by
  unfold R3
  rw [Wm h]; rfl
theorem Aiy {t:Tbl} {w:Rng} {mh y x:Int} (h:w.hi < x):R3 t w mh y x=Kv t w ⟨y+1,mh⟩:=by
  unfold R3
  rw [Abe h]; rfl
theorem Alz {t:Tbl} {w m:Rng} {x y:Int} (h1:w.lo≤x∧x≤w.hi) (h2:m.lo≤y∧y≤m.hi):(y,atX t x y) ∈ Kv t w m:=
  List.mem_flatMap.2 ⟨y,Aa8.2 h2,List.mem_map.2 ⟨x,Aa8.2 h1,rfl⟩⟩
abbrev av2 (p:Int × Int):List AV:=[i64 p.1,i64 p.2]
theorem Ae8 {t:Tbl} {w m:Rng} {yv:AV} {F:Nat→Prop} {σ:Type} {go:σ→Prop} {I:σ→(Nat→Option AO)→Prop} {step:σ→Int × Int→σ × Bool} (hY:Ad9 Try.prog yv F av2 (Kv t w m) go I step) (ht:Hf t) (hp:∀ x y,w.lo≤x→x≤w.hi→m.lo≤y→y≤m.hi→Ak2 t x y)
    (hw:0≤w.lo∧w.lo≤w.hi∧w.hi≤1000) (hm:0≤m.lo∧m.lo≤m.hi∧m.hi≤1000) {nm nw nt:Nat} (f1:¬ F nm) (f2:¬ F nw) (f3:¬ F nt) {s:σ} {os:Nat→Option AO} {bd:Nat} (o1:os nm=some (.cells [i64 m.lo,i64 m.hi])) (o2:os nw=some (.cells [i64 w.lo,i64 w.hi])) (o3:os nt=some (.cells (cQ t))) (hg:go s) (hI:I s os) :
    Bm Try.prog bd (.fn (.func 213) [] [.ptr nm 0,.ptr nw 0,.ptr nt 0]) [yv] os fun res os'=>res=.tup []∧I (Ca step s (Kv t w m)).1 os'∧∀ n,¬ F n→os' n=os n:=by
  refine Bn (v:=[]) (q:=[]) (N:=31) (rs:=[]) Try.func213 rfl (by kernel_rfl) rfl rfl (fun hcl hfree=>?_)
  have hfreeI:∀ (s1:σ) os1,I s1 os1→(∀ n,¬ F n→os1 n=os n)→∀ n,bd≤n→os1 n=none:=fun s1 os1 h1 h2 n hn=>by
    by_cases hFn:F n
    · obtain ⟨o,h3,_⟩:=hY.foot s os n hI hFn
      have:=Al hfree h3; omega
    · rw [h2 n hFn]; exact hfree n hn
  have hlvT:∀ (s1:σ) os1,I s1 os1→(∀ n,¬ F n→os1 n=os n)→AV.lives os1 yv∧(os1 nm).isSome=true∧(os1 nw).isSome=true∧(os1 nt).isSome=true:=fun s1 os1 h1 h2=>⟨hY.live _ _ h1,by rw [h2 nm f1,o1]; rfl,by rw [h2 nw f2,o2]; rfl,by rw [h2 nt f3,o3]; rfl⟩
  refine Af fun K1 hK1=>?_
  simp (disch:=omega) only [o1,amL,amT,sA,sB,↓reduceIte,reduceCtorEq]
  refine hK1 _ ?_
  refine Ai ?_
  skip
  refine A7 (α:=Int × σ × (Nat→Option AO)) (fun q=>⟨T [(0,yv),(1,.ptr nm 0),(2,.ptr nw 0),(3,.ptr nt 0),(5,i64 q.1)],q.2.2⟩) (fun q=>(m.hi+1 - q.1).toNat) (fun q=>(m.lo≤q.1∧q.1≤m.hi+1)∧go q.2.1∧I q.2.1 q.2.2∧(Hp q.2.2).closed∧(∀ n,¬ F n→q.2.2 n=os n)∧(Ca step q.2.1 (Kv t w ⟨q.1,m.hi⟩)).1=(Ca step s (Kv t w m)).1) (m.lo,s,os) ?_ ?_ (fun q hx2 K2 hK2=>?_)
  · exact ⟨by dsimp only; omega,hg,hI,hcl,fun _ _=>rfl,rfl⟩
  · refine Dz ?_ ?_ ?_ ?_ <;> (try simp (disch:=omega) only [o1,o2,o3,amL,sF,↓reduceIte,reduceCtorEq]); all_goals first | exact hcl | exact Sub.refl _ | exact hlvT _ _ hI (fun _ _=>rfl) | exact hY.live _ _ hI | trace_state
  obtain ⟨y,s1,os1⟩:=q; dsimp only at hx2 ⊢; obtain ⟨hy,hg1,hI1,hcl1,hfr1,hal1⟩:=hx2; have p1:=(hfr1 nm f1).trans o1; have p2:=(hfr1 nw f2).trans o2; have p3:=(hfr1 nt f3).trans o3
  refine Aa fun K3 hK3=>?_
  refine Af fun K4 hK4=>?_
  simp (disch:=omega) only [p1,amL,amT,sA,sF,↓reduceIte,reduceCtorEq]
  refine hK4 _ ?_
  refine Ag rfl (fun h=>MT.x ?_) (fun h=>ME.x ?_)
  all_goals
   first
   |refine MT.mk ?_
    first
    |exact Bool.noConfusion h
    |skip
     try simp only [nrm] at h
     refine Aj ?_
     refine hK3 _ ?_
   |refine ME.mk ?_
    first
    |exact Bool.noConfusion h
    |skip
     try simp only [nrm] at h
     refine Bg ?_
     try simp (disch:=omega) only [o1,o2,o3,amL,amT,sA,sB,sC,sD,sE,sF,sG,sH,sI,sJ,sK,sL,sM,sN,sO,↓reduceIte,reduceCtorEq]
     first
       | (try simp only [Eb,J0,reduceIte,Gz]
          refine Az (res:=.tup []) os1 rfl (Sub.refl _) hcl1 (Cy _ rfl) ⟨rfl,?_,hfr1⟩
          rw [← hal1,Adj (by omega)]; exact hI1)
       | (try simp only [Eb,J0,Ny,L0,reduceIte,Gz,P6]
          refine Az (res:=.tup []) os3 rfl (Sub.refl _) hcl3 (Cy _ rfl) ⟨rfl,?_,hfr4⟩
          rw [← hal2,Q9 (x:=x) (by omega)]; simp only [Ca]; rw [if_neg (by simpa using h)]; exact hI3)
       | trace_state
  all_goals
   skip
   refine Aa fun K5 hK5=>?_
   refine Ai ?_
   refine Af fun K6 hK6=>?_
   simp (disch:=omega) only [p2,amL,amT,sA,sF,↓reduceIte,reduceCtorEq]
   refine hK6 _ ?_
   refine Ai ?_
   skip
   refine A7 (α:=Int × σ × (Nat→Option AO)) (fun q=>⟨T [(0,yv),(1,.ptr nm 0),(2,.ptr nw 0),(3,.ptr nt 0),(5,i64 y),(6,i64 q.1)],q.2.2⟩) (fun q=>(w.hi+1 - q.1).toNat) (fun q=>(w.lo≤q.1∧q.1≤w.hi+1)∧go q.2.1∧I q.2.1 q.2.2∧(Hp q.2.2).closed∧(∀ n,¬ F n→q.2.2 n=os n)∧(Ca step q.2.1 (R3 t w m.hi y q.1)).1=(Ca step s (Kv t w m)).1) (w.lo,s1,os1) ?_ ?_ (fun q hx7 K7 hK7=>?_)
   · exact ⟨by dsimp only; omega,hg1,hI1,hcl1,hfr1,by rw [← hal1,Al8 (by omega)]⟩
   · refine Dz ?_ ?_ ?_ ?_ <;> (try simp (disch:=omega) only [amL,sF,↓reduceIte,reduceCtorEq]); all_goals first | exact hcl1 | exact Sub.refl _ | exact hlvT _ _ hI1 hfr1 | trace_state
   obtain ⟨x,s2,os2⟩:=q; dsimp only at hx7 ⊢; obtain ⟨hx,hg2,hI2,hcl2,hfr2,hal2⟩:=hx7; have q1:=(hfr2 nm f1).trans o1; have q2:=(hfr2 nw f2).trans o2; have q3:=(hfr2 nt f3).trans o3
   refine Aa fun K8 hK8=>?_
   refine Af fun K9 hK9=>?_
   simp (disch:=omega) only [q2,amL,amT,sA,sF,↓reduceIte,reduceCtorEq]
   refine hK9 _ ?_
   refine Ag rfl (fun h=>MT.x ?_) (fun h=>ME.x ?_)
   all_goals
    first
    |refine MT.mk ?_
     first
     |exact Bool.noConfusion h
     |skip
      try simp only [nrm] at h
      refine Aj ?_
      refine hK8 _ ?_
    |refine ME.mk ?_
     first
     |exact Bool.noConfusion h
     |skip
      try simp only [nrm] at h
      refine Bg ?_
      refine hK5 _ ?_
      refine Ac ?_
      simp (disch:=omega) only [amL,amT,sA,sF,↓reduceIte,reduceCtorEq]
      refine hK2 (y+1,s2,os2) _ ?_ ?_ (Dz ?_ ?_ ?_ ?_)
      all_goals (try simp (disch:=omega) only [amL,sF,↓reduceIte,reduceCtorEq])
      all_goals first | omega | exact ⟨by omega,hg2,hI2,hcl2,hfr2,by rw [← hal2,Aiy (by omega)]⟩ | exact Sub.refl _ | exact hcl2 | exact hlvT _ _ hI2 hfr2 | trace_state
   all_goals
    skip
    refine Aa fun K10 hK10=>?_
    refine Ai ?_
    refine Af fun K11 hK11=>?_
    have hmem:(y,atX t x y) ∈ Kv t w m:=Alz (by omega) (by omega)
    simp (disch:=omega) only [q3,amL,amT,sA,sB,sF,↓reduceIte,reduceCtorEq]
    repeat' first | (refine Am (by kernel_rfl) rfl (Bbn t x y ht (hp x y (by omega) (by omega) (by omega) (by omega))) (by first | exact .inl rfl | exact .inr (.inl rfl)) ?_ ; simp (disch:=omega) only [amL,sF,↓reduceIte])
    refine Be [(0,yv),(1,.ptr nm 0),(2,.ptr nw 0),(3,.ptr nt 0),(5,i64 y),(6,i64 x)] (by decide) (hY.call s2 (y,atX t x y) os2 bd hmem hg2 hI2 hcl2) (hfreeI _ _ hI2 hfr2) (Nat.le_refl _) (fun res os3 hR hcl3 hlv3=>?_)
    obtain ⟨rfl,hI3,hfr3⟩:=hR
    have hv3:=hY.live _ _ hI3
    have hfr4:∀ n,¬ F n→os3 n=os n:=fun n hn=>(hfr3 n hn).trans (hfr2 n hn)
    simp (disch:=omega) only [amL,sF,↓reduceIte,reduceCtorEq]
    refine ⟨hlvT _ _ hI3 hfr4,?_⟩
    refine hK11 _ ?_
    refine Ag rfl (fun h=>MT.x ?_) (fun h=>ME.x ?_)
    all_goals
     first
     |refine MT.mk ?_
      first
      |exact Bool.noConfusion h
      |skip
       try simp only [nrm] at h
       refine Ae ?_
       try simp (disch:=omega) only [amL]
       first
         | (try simp only [Eb,J0,Ny,L0,reduceIte,Gz,P6]
            refine Az (res:=.tup []) os1 rfl (Sub.refl _) hcl1 (Cy _ rfl) ⟨rfl,?_,hfr1⟩
            rw [← hal1,Adj (by omega)]; exact hI1)
         | (try simp only [Eb,J0,Ny,L0,reduceIte,Gz,P6]
            refine Az (res:=.tup []) os3 rfl (Sub.refl _) hcl3 (Cy _ rfl) ⟨rfl,?_,hfr4⟩
            rw [← hal2,Q9 (x:=x) (by omega)]; simp only [Ca]; rw [if_neg (by simpa using h)]; exact hI3)
         | trace_state
     |refine ME.mk ?_
      first
      |exact Bool.noConfusion h
      |skip
       try simp only [nrm] at h
       refine Aj ?_
       refine hK10 _ ?_
    all_goals
     skip
     refine Ac ?_
     simp (disch:=omega) only [amL,amT,sA,sF,↓reduceIte,reduceCtorEq]
     refine hK7 (x+1,(step s2 (y,atX t x y)).1,os3) _ ?_ ?_ (Dz ?_ ?_ ?_ ?_)
     all_goals (try simp (disch:=omega) only [amL,sF,↓reduceIte,reduceCtorEq])
     all_goals first | omega | exact ⟨by omega,hY.next _ _ hmem hg2 (by simpa using h),hI3,hcl3,hfr4,by rw [← hal2,Q9 (x:=x) (by omega)]; simp only [Ca]; rw [if_pos (by simpa using h)]⟩ | exact Sub.refl _ | exact hcl3 | exact hlvT _ _ hI3 hfr4 | trace_state
theorem Amm (a b:Int):Bf Try.prog 126 [.p (.sl [[iv a],[iv b]])] (i64 (min a b)):=by
  refine Au (v:=[]) (q:=[]) (N:=25) (rs:=[.tmp 2]) Try.func126 rfl rfl rfl rfl rfl ?_
  refine Af fun K1 hK1=>?_
  simp (disch:=omega) only [amL,sA]
  refine hK1 _ ?_
  refine Aa fun K2 hK2=>?_
  refine Af fun K3 hK3=>?_
  simp (disch:=omega) only [amL,amT,sA,sB,sH,sK,↓reduceIte,reduceCtorEq]
  refine hK3 _ ?_
  refine Ag rfl (fun h=>MT.x ?_) (fun h=>ME.x ?_)
  all_goals
   first
   |refine MT.mk ?_
    first
    |exact Bool.noConfusion h
    |skip
     try simp only [nrm] at h
     exfalso; omega
   |refine ME.mk ?_
    first
    |exact Bool.noConfusion h
    |skip
     try simp only [] at h
     refine Aj ?_
     refine hK2 _ ?_
  all_goals
   skip
   refine Af fun K4 hK4=>?_
   simp (disch:=omega) only [amL,amT,sA,sB,sH,sK,sL,sN,↓reduceIte,reduceCtorEq]
   refine hK4 _ ?_
   refine Aa fun K5 hK5=>?_
   refine Af fun K6 hK6=>?_
   simp (disch:=omega) only [amL,sA]
   refine hK6 _ ?_
   refine Ai ?_
   skip
   refine A7 (α:=Nat) (fun k=>⟨T [(0,.p (.sl [[iv a],[iv b]])),(3,i64 (if k=0 then a else min a b)),(4,i64 ((k:Int)+1))],O []⟩) (fun k=>1 - k) (fun k=>k≤1) 0 ?_ ?_ (fun k hx7 K7 hK7=>?_)
   · simp
   · refine B7 ?_ ?_ ?_ ?_ <;> (try simp (disch:=omega) only [amL,sF,sH,↓reduceIte,reduceCtorEq]); all_goals rfl
   have hk:=hx7
   refine Aa fun K8 hK8=>?_
   refine Af fun K9 hK9=>?_
   simp (disch:=omega) only [amL,amT,sA,sB,sF,sH,↓reduceIte,reduceCtorEq]
   refine hK9 _ ?_
   refine Ag rfl (fun h=>MT.x ?_) (fun h=>ME.x ?_)
   all_goals
    first
    |refine MT.mk ?_
     first
     |exact Bool.noConfusion h
     |skip
      try simp only [nrm] at h
      refine Aj ?_
      refine hK8 _ ?_
    |refine ME.mk ?_
     first
     |exact Bool.noConfusion h
     |skip
      try simp only [nrm] at h
      refine Bg ?_
      refine hK5 _ ?_
      refine Af fun K10 hK10=>?_
      simp (disch:=omega) only [amL,sA,sF,↓reduceIte,reduceCtorEq]
      refine hK10 _ ?_
      refine Ae ?_
      try simp (disch:=omega) only [amL,↓reduceIte]
      all_goals first | rfl | trace_state
   all_goals
    skip
    refine Aa fun K11 hK11=>?_
    refine Ai ?_
    refine Ac ?_
    obtain rfl:k=0:=by omega
    simp (disch:=omega) only [amL,amT,sA,sB,sF,sH,sK,sL,sN,↓reduceIte,reduceCtorEq]
    refine hK11 _ ?_
    refine Ac ?_
    simp (disch:=omega) only [amL,amT,sA,sF,sH,↓reduceIte,reduceCtorEq]
    refine hK7 1 _ ?_ ?_ (B7 ?_ ?_ ?_ ?_)
    all_goals (try simp (disch:=omega) only [amL,sD,sF,sH,↓reduceIte,reduceCtorEq])
    all_goals first | omega | exact congrArg i64 (by split <;> omega) | trace_state
theorem Abm (a b:Int):Bf Try.prog 192 [.p (.sl [[iv a],[iv b]])] (i64 (min a b)):=by
  refine Au (v:=[]) (q:=[]) (N:=5) (rs:=[.tmp 2]) Try.func192 rfl rfl rfl rfl rfl ?_
  refine Af fun K1 hK1=>?_
  simp (disch:=omega) only [amL,sA]
  refine hK1 _ ?_
  refine Af fun K2 hK2=>?_
  simp (disch:=omega) only [amL,sA,↓reduceIte,reduceCtorEq]
  repeat' first | (refine Am (by kernel_rfl) rfl (Amm a b) (by first | exact .inl rfl | exact .inr (.inl rfl)) ?_ ; simp (disch:=omega) only [amL,sA,↓reduceIte])
  refine hK2 _ ?_
  refine Ae ?_
  try simp (disch:=omega) only [amL,↓reduceIte]
  all_goals rfl
theorem Ex {os:Nat→Option AO} {n:Nat} {cs:List AV} (hcl:(Hp os).closed) (h:∀ x ∈ cs,x.isP=true):(Hp (upd os n (some (.cells cs)))).closed:=
  Bc hcl (AO.lives_cells.2 fun _ x hx=>Cy _ (h x (List.mem_of_getElem? hx)))
theorem Ahf {t:Tbl} {w m:Rng} {os:Nat→Option AO} {bd:Nat} :
    Bm Try.prog bd (.fn (.func 191) [] []) [avQ t,avR w,avR m] os fun res os'=>res=.fn (.func 213) [] [.ptr (bd+5) 0,.ptr (bd+4) 0,.ptr (bd+3) 0]∧os'=upd (upd (upd os (bd+3) (some (.cells (cQ t)))) (bd+4) (some (.cells [i64 w.lo,i64 w.hi]))) (bd+5) (some (.cells [i64 m.lo,i64 m.hi])):=by
  refine Bn (v:=[]) (q:=[]) (N:=8) (rs:=[.tmp 6]) Try.func191 rfl (by kernel_rfl) rfl rfl (fun hcl hfree=>?_)
  have hfr0:∀ k,os (bd+k)=none:=fun k=>hfree _ (by omega)
  refine Af fun K1 hK1=>?_
  simp (disch:=omega) only [hfr0,Ad,amL,sA,sB,sF,↓reduceIte,reduceCtorEq]
  refine hK1 _ ?_
  refine Af fun K2 hK2=>?_
  simp (disch:=omega) only [amL,sA,sF,↓reduceIte]
  refine hK2 _ ?_
  refine Ae ?_
  try simp (disch:=omega) only [amL]
  refine Az (res:=.fn (.func 213) [] [.ptr (bd+5) 0,.ptr (bd+4) 0,.ptr (bd+3) 0]) (upd (upd (upd os (bd+3) (some (.cells (cQ t)))) (bd+4) (some (.cells [i64 w.lo,i64 w.hi]))) (bd+5) (some (.cells [i64 m.lo,i64 m.hi]))) (by simp (disch:=omega) only [amL,↓reduceIte]; try rfl) (Sub.refl _) (Ex (Ex (Ex hcl (by simp [AV.isP])) (by simp [AV.isP])) (by simp [AV.isP])) ?_ ⟨rfl,rfl⟩
  · rw [Cl]; simp (disch:=omega) only [A8,Ax,Bz,Ad,Ak,Option.isSome_some,and_self]
theorem Alp (a b:Int):(if a < b then b else a)=max a b:=by omega
abbrev tm9 (n6 n:Nat):List (Nat × AV):=[(6,.ptr n6 0),(9,.ptr n 0)]
def Ab3 (r:Rng) (p:Int × Int):Rng × Option Code:=(⟨min r.lo p.2,max r.hi p.2⟩,none)
theorem Ajx {L:List (Int × Int)} {n6 n bdL:Nat} (d:n < bdL) (d6:n6 < bdL) (d7:n6≠n) {A B:Code} (hcode:(Try.f157.body.bind Fs)=some (A,B)) :
    Y3 Try.prog bdL ⟨51,[38,39],A,B,.ready,none⟩ (tm9 n6 n) [] [] (fun q=>q=n∨q=n6) av2 L (fun (r:Rng) os=>os n=some (.cells [i64 r.lo,i64 r.hi])∧os n6=some (.cells [i64 0,i64 0])) Ab3 where
  ready:=rfl
  lenp _:=rfl
  psn q hq:=by
    simp only [List.mem_cons,List.not_mem_nil,or_false] at hq
    rcases hq with rfl | rfl
    · exact (by decide:38 < 51)
    · exact (by decide:39 < 51)
  notF h:=by omega
  tmF q hq:=by
    simp [AO.clean,AV.clean,AV.clean.cleanL] at hq
    omega
  stable s o1 o2 hI he:=⟨(he n (.inl rfl)).trans hI.1,(he n6 (.inr rfl)).trans hI.2⟩
  foot s o1 q hI hq:=by
    rcases hq with rfl | rfl
    · exact ⟨_,hI.1,fun m hm=>by simp [AO.clean,AV.clean,AV.clean.cleanL] at hm⟩
    · exact ⟨_,hI.2,fun m hm=>by simp [AO.clean,AV.clean,AV.clean.cleanL] at hm⟩
  body s x o1 bd1 hx hI hl hcl1 hfree1 hb1 rl:=by
    have hfr0:∀ k,o1 (bd1+k)=none:=fun k=>hfree1 _ (by omega)
    obtain ⟨hI,hI6⟩:=hI
    have b5:=Al hfree1 hI
    have b6:=Al hfree1 hI6
    have hclL:∀ {os:Nat→Option AO} {kk:D3},(Hp os).closed→(os n).isSome=true→(os n6).isSome=true→(Hp (upd os bdL (some (.loop kk (tm9 n6 n))))).closed:=fun {os kk} hc h1 h2=>Bc hc (fun q hq=>by
      have e:q=n∨q=n6:=by
        simp [AO.clean,AV.clean,AV.clean.cleanL] at hq; omega
      unfold upd
      split
      · rfl
      · rcases e with e | e <;> rw [e] <;> assumption)
    cases (show some (_,_)=some (A,B) from hcode)
    show AWP _ _ 51 _ ⟨T [(39,i64 x.2),(38,i64 x.1),(6,.ptr n6 0),(9,.ptr n 0)],o1⟩ _
    refine Ac ?_
    simp (disch:=(first | assumption | omega)) only [hl,amL,sA,↓reduceIte]
    try simp (disch:=(first | assumption | omega)) only [hl,hfr0,Ad,C1,amL,amT,sA,sB,sC,sD,sE,sF,sG,sH,sI,sJ,sK,sL,sM,sN,sO,↓reduceIte,reduceCtorEq]
    skip
    refine Ai ?_
    refine Bk (by kernel_rfl) (by kernel_rfl) ?_
    simp (disch:=(first | assumption | omega)) only [hI,hfr0,Ad,amL,amT,sA,sB,sE,sF,↓reduceIte,reduceCtorEq]
    repeat' first | (refine Am (by kernel_rfl) rfl (Abm _ _) (by first | exact .inl rfl | exact .inr (.inl rfl)) ?_ ; simp (disch:=(first | assumption | omega)) only [Alp,hI,Ad,Ci,amL,amT,sA,sB,sE,sF,↓reduceIte,reduceCtorEq])
    try simp (disch:=(first | assumption | omega)) only [Alp,hI,hl,hfr0,Ad,C1,Ci,Fv,Aei,Aek,Yk,Pm,Jp,amL,amT,sA,sB,sC,sD,sE,sF,sG,sH,sI,sJ,sK,sL,sM,sN,sO,↓reduceIte,reduceCtorEq]
    refine F9 (upd (upd o1 n (some (.cells [i64 (min s.lo x.2),i64 (max s.hi x.2)]))) bdL (some (.loop (Agr _ none) (tm9 n6 n)))) (by simp (disch:=omega) only [Ad,Ak]; first | done | rfl) (fun z=>?_) (hclL (Ex hcl1 (by simp [AV.isP])) (by rw [Ak]; rfl) (by rw [Ad d7,hI6]; rfl)) ⟨rfl,⟨⟨by simp (disch:=omega) only [Ad,Ak]; first | done | rfl,by simp (disch:=omega) only [Ad]; exact hI6⟩,by rw [Ak]; rfl⟩,fun q hq=>by simp (disch:=omega) only [Ad]⟩
    by_cases e1:z=bdL
    · subst e1; right; rw [Ak,Ak] ; first | done | rfl
    · by_cases e2:z=n
      · subst e2; right; simp (disch:=omega) only [Ad,Ak] ; first | done | rfl
      · by_cases e3:z=bd1+43
        · left; subst e3; simp (disch:=omega) only [Ad]; exact hfr0 43
        · right; simp (disch:=omega) only [Ad]
theorem Ajy:∀ (l:List (Int × Int)) (r:Rng),(Ca (fun (s:Rng × Option Code) x=>(Ab3 s.1 x,(Ab3 s.1 x).2.isNone)) (r,none) l).1=(l.foldl (fun r p=>⟨min r.lo p.2,max r.hi p.2⟩) r,none)
  | [],r=>rfl
  | x :: l,r=>by
    show (if (Ab3 r x).2.isNone=true then Ca _ (Ab3 r x) l else _).1=_
    rw [if_pos (show (Ab3 r x).2.isNone=true from rfl)]
    exact Ajy l (Ab3 r x).1
theorem Aio {t:Tbl} {w m:Rng} (h1:En t.w w=true) (h2:En t.m m=true):∀ x y,w.lo≤x→x≤w.hi→m.lo≤y→y≤m.hi→Ak2 t x y:=by
  intro x y a b c d
  simp only [En,Bool.and_eq_true,decide_eq_true_eq] at h1 h2
  exact ⟨⟨by omega,by omega⟩,by omega,by omega⟩
theorem Wy {l:List Int} {r:Rng} {most:Int} (hm:most≤1000) (hl:2≤l.length) (hr:C4 most (-1) l=true) (h:En l r=true):0≤r.lo∧r.lo≤r.hi∧r.hi≤1000:=by
  simp only [En,Bool.and_eq_true,decide_eq_true_eq] at h
  have a:=Gq hr (k:=0) (by omega)
  have b:=Gq hr (k:=l.length - 1) (by omega)
  unfold Hg at h
  omega
theorem Xl {l:List Int} {r:Rng} (h:En l r=true):(decide (r.lo≤r.hi)&&(Vk ⟨l.getD 0 0,Hg l⟩ r.lo&&Vk ⟨l.getD 0 0,Hg l⟩ r.hi))=true:=by
  simp only [En,Bool.and_eq_true,decide_eq_true_eq] at h
  simp only [Vk,inB,Bool.and_eq_true,decide_eq_true_eq]
  omega
theorem Amh {t:Nat→AV} {tm:List (Nat × AV)} (h:leT t tm):∀ (j:Nat) (p:Nat × AV),tm[j]?=some p→p.2=.undef∨p.2=t p.1:=by
  induction tm with
  | nil=>intro j p hp; simp at hp
  | cons x r ih=>
    obtain ⟨i,v⟩:=x
    rw [Qd] at h
    intro j p hp
    cases j with
    | zero=>simp at hp; subst hp; exact .inr h.1.symm
    | succ j=>exact ih h.2 j p (by simpa using hp)
theorem Agp (t:Tbl) (w m:Rng) (ht:Hf t) (h1:En t.w w=true) (h2:En t.m m=true):Bf Try.prog 157 [avQ t,avR w,avR m] (.tup [avR (Aoy (Kv t w m)),i64 0]):=by
  have hw:=Wy (most:=40) (by omega) ht.nw.1 ht.w h1
  have hm:=Wy (most:=60) (by omega) ht.nm.1 ht.m h2
  have e1:=Xl h1
  have e2:=Xl h2
  have nw:=ht.nw
  have nm:=ht.nm
  refine Ro (v:=[191]) (q:=[]) (N:=51) (rs:=[.cell 6 265,.tmp 7]) Try.func157 rfl rfl rfl rfl rfl ?_
  obtain ⟨A,B,hcode⟩:∃ A B,(Try.f157.body.bind Fs)=some (A,B):=⟨_,_,rfl⟩
  refine Br fun K1 hK1=>?_
  refine Ac ?_
  simp (disch:=(first | assumption | omega)) only [amL,amT,sA,sB,sF,↓reduceIte,reduceCtorEq]
  refine hK1 _ ?_
  refine Br fun K2 hK2=>?_
  refine Af fun K3 hK3=>?_
  simp (disch:=(first | assumption | omega)) only [amL,amT,sA,sB,sF,sG,↓reduceIte]
  repeat' first | (refine Am (by kernel_rfl) rfl (Zl t ht) (by first | exact .inl rfl | exact .inr (.inl rfl)) ?_ ; simp (disch:=(first | assumption | omega)) only [amL,sA,↓reduceIte])
  refine hK3 _ ?_
  refine Af fun K4 hK4=>?_
  simp (disch:=(first | assumption | omega)) only [amL,amT,sA,↓reduceIte]
  refine hK4 _ ?_
  refine Ag rfl (fun h=>MT.x ?_) (fun h=>ME.x ?_)
  all_goals
   first
   |refine MT.mk ?_
    first
    |exact Bool.noConfusion h
    |skip
     try simp only [nrm] at h
     refine Af fun K5 hK5=>?_
     simp (disch:=(first | assumption | omega)) only [e1,e2,Ad,amL,amT,sA,sB,sC,sD,sE,sF,sG,sH,sI,sJ,sK,sL,sM,sN,sO,↓reduceIte,reduceCtorEq]
     refine hK5 _ ?_
     refine Ae ?_
     try simp (disch:=(first | assumption | omega)) only [e1,e2,Ad,amL,amT,sA,sB,sC,sD,sE,sF,sG,sH,sI,sJ,sK,sL,sM,sN,sO,↓reduceIte,reduceCtorEq]
     all_goals first | rfl | trace_state
   |refine ME.mk ?_
    first
    |exact Bool.noConfusion h
    |skip
     try simp only [nrm] at h
     refine Aj ?_
     refine hK2 _ ?_
  all_goals
   skip
   refine Br fun K6 hK6=>?_
   refine Aa fun K7 hK7=>?_
   refine Bk (by kernel_rfl) (by kernel_rfl) ?_
   simp (disch:=(first | assumption | omega)) only [amL,amT,sA,sF,sG,↓reduceIte,reduceCtorEq]
   repeat' first | (refine B2 (fun h=>?_) (fun h=>?_) <;> simp (disch:=(first | assumption | omega)) only [h,e1,e2,Ad,amL,amT,sA,sB,sC,sD,sE,sF,sG,sH,sI,sJ,sK,sL,sM,sN,sO,↓reduceIte,reduceCtorEq]) | (refine Ba (fun h=>?_) (fun h=>?_) <;> simp (disch:=(first | assumption | omega)) only [h,e1,e2,Ad,amL,amT,sA,sB,sC,sD,sE,sF,sG,sH,sI,sJ,sK,sL,sM,sN,sO,↓reduceIte,reduceCtorEq]) | (refine Am (by kernel_rfl) rfl (by first | exact Ael t.w (by omega) (by omega) | exact Ael t.m (by omega) (by omega)) (by first | exact .inl rfl | exact .inr (.inl rfl)) ?_ ; simp (disch:=(first | assumption | omega)) only [amL,amT,sA,sB,sF,sG,↓reduceIte]) | (refine Am (by kernel_rfl) rfl (by first | exact Aah (Rng.mk (t.w.getD 0 0) (Hg t.w)) w | exact Aah (Rng.mk (t.m.getD 0 0) (Hg t.m)) m) (by first | exact .inl rfl | exact .inr (.inl rfl)) ?_ ; simp (disch:=(first | assumption | omega)) only [e1,e2,amL,amT,sA,sF,sG,↓reduceIte,reduceCtorEq])
   all_goals
    skip
    refine hK7 _ ?_
    refine Ag rfl (fun h=>MT.x ?_) (fun h=>ME.x ?_)
    all_goals
     first
     |refine MT.mk ?_
      first
      |exact Bool.noConfusion h
      |skip
       try simp only [nrm] at h
       refine Af fun K8 hK8=>?_
       simp (disch:=(first | assumption | omega)) only [e1,e2,Ad,amL,amT,sA,sB,sC,sD,sE,sF,sG,sH,sI,sJ,sK,sL,sM,sN,sO,↓reduceIte,reduceCtorEq]
       refine hK8 _ ?_
       refine Ae ?_
       try simp (disch:=(first | assumption | omega)) only [e1,e2,Ad,amL,amT,sA,sB,sC,sD,sE,sF,sG,sH,sI,sJ,sK,sL,sM,sN,sO,↓reduceIte,reduceCtorEq]
       all_goals first | rfl | trace_state
     |refine ME.mk ?_
      first
      |exact Bool.noConfusion h
      |skip
       try simp only [] at h
       refine Aj ?_
       refine hK6 _ ?_
    all_goals
     skip
     refine Br fun K9 hK9=>?_
     refine Ac ?_
     simp (disch:=(first | assumption | omega)) only [amL,amT,sA,sB,sE,sF,↓reduceIte]
     refine hK9 _ ?_
     refine Pc fun K10 hK10=>?_
     refine Br fun K11 hK11=>?_
     refine Ac ?_
     simp (disch:=(first | assumption | omega)) only [amL,amT,sA,sB,sF,↓reduceIte]
     refine Be [(6,.ptr 6 0),(9,.ptr 9 0)] (by decide) (Ahf (t:=t) (w:=w) (m:=m) (bd:=51)) (Ha rfl) (by decide) (fun res os2 hR hcl2 hlv2=>?_)
     obtain ⟨rfl,rfl⟩:=hR
     simp (disch:=(first | assumption | omega)) only [amL,sB,sF,↓reduceIte]
     refine hK11 _ ?_
     refine Lq ?_
     have hRd:=Ajx (L:=Kv t w m) (n6:=6) (n:=9) (bdL:=60) (by decide) (by decide) (by decide) hcode
     have hc:=Ae8 (F:=fun q=>(q=9∨q=6)∨q=60) hRd.yields ht (Aio h1 h2) hw hm (nm:=56) (nw:=55) (nt:=54) (by decide) (by decide) (by decide) (s:=((Rng.mk 2000 0),(none:Option Code))) (bd:=61) (os:=O [(60,.loop ⟨51,[38,39],A,B,.ready,none⟩ (tm9 6 9)),(56,.cells [i64 m.lo,i64 m.hi]),(55,.cells [i64 w.lo,i64 w.hi]),(54,.cells (cQ t)),(9,.cells [i64 2000,i64 0]),(9,.cells [i64 0,i64 0]),(6,.cells [i64 0,i64 0]),(5,.cells [i64 m.lo,i64 m.hi]),(4,.cells [i64 w.lo,i64 w.hi]),(3,.cells (cQ t))]) rfl rfl rfl rfl ⟨⟨rfl,rfl⟩,rfl⟩
     cases (show some (_,_)=some (A,B) from hcode)
     refine H6 (bd:=60) (tm:=tm9 6 9) rfl (Ha rfl) (by decide) rfl (by kernel_rfl) (fun i=>Lr (by simp (disch:=(first | assumption | omega)) only [amL,sF,↓reduceIte]) i) (Amh (by simp (disch:=(first | assumption | omega)) only [amL,sF,↓reduceIte])) hc (fun res os2 hR hcl2=>?_)
     obtain ⟨rfl,hI2,hfr2⟩:=hR
     rw [Ajy] at hI2
     obtain ⟨⟨q5,q6⟩,q7⟩:=hI2
     dsimp only at q5 q6 q7
     refine ⟨_,q7,by simp [],?_⟩
     show Jl 0 _ .normal _
     simp only [Ei,Hm]
     refine hK10 _ ?_
     refine Br fun K12 hK12=>?_
     refine Ac ?_
     simp (disch:=(first | assumption | omega)) only [q5,q6,Ad,amL,amT,sA,sB,sF,↓reduceIte]
     refine hK12 _ ?_
     refine Js ?_
     refine Ae ?_
     try simp (disch:=(first | assumption | omega)) only [amL,amT,sB,sF,↓reduceIte]
     all_goals first | rfl | trace_state
theorem Ri (n lo hi:Int):Bf Try.prog 56 [i64 n,i64 lo,i64 hi] (bl (inB n lo hi)):=by
  refine Au (v:=[]) (q:=[]) (N:=15) (rs:=[.tmp 6]) Try.func56 rfl rfl rfl rfl rfl ?_
  refine Af fun K1 hK1=>?_
  simp (disch:=omega) only [amL,sA,sB]
  refine hK1 _ ?_
  refine Af fun K2 hK2=>?_
  simp (disch:=omega) only [amL,amT,sA,sF,↓reduceIte,reduceCtorEq]
  repeat' first | (refine B2 (fun h=>?_) (fun h=>?_) <;> simp (disch:=omega) only [h,amL,amT,sA,sF,↓reduceIte,reduceCtorEq]) | (refine Ba (fun h=>?_) (fun h=>?_) <;> simp (disch:=omega) only [h,amL,amT,sA,sB,sC,sD,sE,sF,sG,sH,sI,sJ,sK,sL,sM,sN,sO,↓reduceIte,reduceCtorEq])
  all_goals
   skip
   refine hK2 _ ?_
   refine Ae ?_
   try simp (disch:=omega) only [amL,↓reduceIte]
   simp [inB,h]
theorem Aap (r:Rng):Bf Try.prog 158 [avR r] (avR r):=by
  refine Au (v:=[]) (q:=[]) (N:=8) (rs:=[.cell 2 265]) Try.func158 rfl rfl rfl rfl rfl ?_
  refine Af fun K1 hK1=>?_
  simp (disch:=omega) only [amL,amT,sA,sB,sF,↓reduceIte]
  refine hK1 _ ?_
  refine Af fun K2 hK2=>?_
  simp (disch:=omega) only [amL,amT,sA,sB,sE,sF,↓reduceIte,reduceCtorEq]
  refine hK2 _ ?_
  refine Ae ?_
  try simp (disch:=omega) only [amL,amT,sB,sF,↓reduceIte]
  all_goals rfl
theorem Aji (s:Sto) (c:Csk) (ht:Hf s.t) (hc:okC s.t c=true):Bf Try.prog 110 [avO s,avC c] (.tup [avR (D6 s c),i64 0]):=by
  have hh:En s.t.w c.t=true∧En s.t.m c.k=true:=by
    simp only [okC,Bool.and_eq_true] at hc; exact hc.2
  refine Au (v:=[]) (q:=[]) (N:=26) (rs:=[.cell 4 52,.tmp 5]) Try.func110 rfl rfl rfl rfl rfl ?_
  refine Af fun K1 hK1=>?_
  simp (disch:=omega) only [amL,amT,sA,sB,sF,↓reduceIte,reduceCtorEq]
  refine hK1 _ ?_
  refine Aa fun K2 hK2=>?_
  refine Ka [.sto [8] 6] (by kernel_rfl) (by kernel_rfl) ?_
  simp (disch:=omega) only [amL,amT,sA,sB,sE,sF,↓reduceIte,reduceCtorEq]
  repeat' first | (refine Am (by kernel_rfl) rfl (by first | exact Aap c.t | exact Aap c.k) (by first | exact .inl rfl | exact .inr (.inl rfl)) ?_ ; simp (disch:=omega) only [amL,amT,sA,sB,sF,↓reduceIte,reduceCtorEq]) | (refine Am (by kernel_rfl) rfl (Agp s.t c.t c.k ht hh.1 hh.2) (by first | exact .inl rfl | exact .inr (.inl rfl)) ?_ ; simp (disch:=omega) only [amL,amT,sA,sB,sF,↓reduceIte])
  refine ⟨by simp [Cf.ok,Lj,T,AV.known,AV.clean,AV.clean.cleanL],?_⟩
  all_goals
   skip
   refine hK2 _ ?_
   refine Af fun K3 hK3=>?_
   simp (disch:=omega) only [amL,amT,sA,sB,sE,sF,↓reduceIte,reduceCtorEq]
   refine hK3 _ ?_
   refine Ae ?_
   try simp (disch:=omega) only [amL,amT,sB,sF,↓reduceIte]
   all_goals first | rfl | trace_state
theorem Amf (s:Sto) (c:Csk) (ht:Hf s.t) (hc:okC s.t c=true):Bf Try.prog 155 [avO s,avC c] (bl true):=by
  have hg:inB c.g 1 99=true:=by
    simp only [okC,Bool.and_eq_true] at hc; exact hc.1
  refine Au (v:=[]) (q:=[]) (N:=20) (rs:=[.tmp 4]) Try.func155 rfl rfl rfl rfl rfl ?_
  refine Af fun K1 hK1=>?_
  simp (disch:=omega) only [eq_self,decide_true,amL,sA,sB,sF,↓reduceIte,reduceCtorEq]
  refine hK1 _ ?_
  refine Af fun K2 hK2=>?_
  simp (disch:=omega) only [eq_self,decide_true,amL,amT,sA,sB,sF,↓reduceIte]
  repeat' first | (refine Am (by kernel_rfl) rfl (Aji s c ht hc) (by first | exact .inl rfl | exact .inr (.inl rfl)) ?_ ; simp (disch:=omega) only [eq_self,decide_true,amL,amT,sA,sB,sF,↓reduceIte])
  refine hK2 _ ?_
  refine Af fun K3 hK3=>?_
  simp (disch:=omega) only [eq_self,decide_true,amL,amT,sA,sF,↓reduceIte,reduceCtorEq]
  repeat' first | (refine B2 (fun h=>?_) (fun h=>?_) <;> simp (disch:=omega) only [h,hg,eq_self,decide_true,amL,amT,sA,sB,sC,sD,sE,sF,sG,sH,sI,sJ,sK,sL,sM,sN,sO,↓reduceIte,reduceCtorEq]) | (refine Ba (fun h=>?_) (fun h=>?_) <;> simp (disch:=omega) only [h,hg,eq_self,decide_true,amL,amT,sA,sB,sC,sD,sE,sF,sG,sH,sI,sJ,sK,sL,sM,sN,sO,↓reduceIte,reduceCtorEq]) | (refine Am (by kernel_rfl) rfl (Ri _ _ _) (by first | exact .inl rfl | exact .inr (.inl rfl)) ?_ ; simp (disch:=omega) only [hg,eq_self,decide_true,amL,amT,sA,sF,↓reduceIte])
  all_goals
   skip
   refine hK3 _ ?_
   refine Ae ?_
   try simp (disch:=omega) only [eq_self,amL,↓reduceIte]
   all_goals first | rfl | (simp_all; done) | trace_state
theorem elC:ElT Try.prog 42 146 avC Zk:=Aly (P:=Try.prog) (tS:=42) (tE:=146) (enc:=Zk) (n:=5) (by simp only [amT]) (by simp only [amT]; rfl) (by simp only [amT]) (fun _=>rfl)
theorem sfC:Qh Try.prog 42 146 263 3 4 211 187:=⟨⟨_,Try.func211,rfl,rfl,rfl,by kernel_rfl⟩,⟨_,Try.func187,rfl,rfl,rfl,by kernel_rfl⟩⟩
theorem afC : Y6 Try.prog "proof.go:35" "proof.go:36" 42 146 263 4 187 188 156 := ⟨⟨_, Try.func188, rfl, rfl, rfl, by kernel_rfl⟩, ⟨_, Try.func156, rfl, rfl, rfl, by kernel_rfl⟩⟩
theorem Ao6 (s:Sto) (hS:Ku s) {os:Nat→Option AO} {bd:Nat}:Bm Try.prog bd (.fn (.func 156) [] []) [.p (slC s.c),.fn (.func 155) [avO s] []] os fun res os'=>res=bl (s.c.all fun _=>true)∧os'=os:=
  Ajp elC sfC afC (by simp only [amT]; rfl) (by kernel_rfl) rfl (fun x hx=>Amf s x hS.t (List.all_eq_true.1 hS.c x hx)) (by have:=hS.n; omega)
theorem G4 {α:Type}:∀ (l:List α),(l.all fun _=>true)=true
  | []=>rfl
  | _ :: l=>by simp only [List.all_cons,Bool.true_and]; exact G4 l
theorem Akr (s:Sto) (hS:Ku s):Bf Try.prog 109 [avO s] (i64 0):=by
  have hn:=hS.n
  have hr:=hS.r
  refine Au (v:=[156]) (q:=[]) (N:=30) (rs:=[.tmp 2]) Try.func109 rfl rfl rfl rfl rfl ?_
  refine Af fun K1 hK1=>?_
  simp (disch:=omega) only [eq_self,amL,sA,↓reduceIte]
  refine hK1 _ ?_
  refine Aa fun K2 hK2=>?_
  refine Af fun K3 hK3=>?_
  simp (disch:=omega) only [eq_self,amL,amT,sA,sB,sE,sF,sG,↓reduceIte,reduceCtorEq]
  repeat' first | (refine Am (by kernel_rfl) rfl (Zl s.t hS.t) (by first | exact .inl rfl | exact .inr (.inl rfl)) ?_ ; simp (disch:=omega) only [eq_self,amL,sA,↓reduceIte])
  refine hK3 _ ?_
  refine Af fun K4 hK4=>?_
  simp (disch:=omega) only [ne_eq,eq_self,not_true_eq_false,decide_false,amL,amT,sA,↓reduceIte]
  refine hK4 _ ?_
  refine Ag rfl (fun h=>MT.x ?_) (fun h=>ME.x ?_)
  all_goals
   first
   |refine MT.mk ?_
    first
    |exact Bool.noConfusion h
    |skip
     try simp only [nrm] at h
     refine Af fun K5 hK5=>?_
     simp (disch:=omega) only [hr,G4,ne_eq,eq_self,not_true_eq_false,decide_false,amL,amT,sA,sB,sC,sD,sE,sF,sG,sH,sI,sJ,sK,sL,sM,sN,sO,↓reduceIte,reduceCtorEq]
     refine hK5 _ ?_
     refine Ae ?_
     try simp (disch:=omega) only [hr,G4,ne_eq,eq_self,not_true_eq_false,decide_false,amL,amT,sA,sB,sC,sD,sE,sF,sG,sH,sI,sJ,sK,sL,sM,sN,sO,↓reduceIte,reduceCtorEq]
     all_goals first | rfl | (exfalso; omega) | (simp_all; done) | (simp_all; omega) | trace_state
   |refine ME.mk ?_
    first
    |exact Bool.noConfusion h
    |skip
     try simp only [] at h
     refine Aj ?_
     refine hK2 _ ?_
  all_goals
   skip
   refine Af fun K6 hK6=>?_
   simp (disch:=omega) only [eq_self,amL,amT,sA,sB,sF,↓reduceIte]
   refine hK6 _ ?_
   refine Aa fun K7 hK7=>?_
   refine Ai ?_
   refine Af fun K8 hK8=>?_
   simp (disch:=omega) only [eq_self,amL,amT,sA,sF,↓reduceIte,reduceCtorEq]
   refine hK8 _ ?_
   refine Ag rfl (fun h=>MT.x ?_) (fun h=>ME.x ?_)
   all_goals
    first
    |refine MT.mk ?_
     first
     |exact Bool.noConfusion h
     |skip
      try simp only [nrm] at h
      refine Af fun K9 hK9=>?_
      simp (disch:=omega) only [eq_self,amL,sA]
      refine hK9 _ ?_
      refine Ae ?_
      try simp (disch:=omega) only [eq_self,amL,↓reduceIte]
      all_goals first | rfl | (exfalso; omega) | (simp_all; done) | (simp_all; omega) | trace_state
    |refine ME.mk ?_
     first
     |exact Bool.noConfusion h
     |skip
      try simp only [nrm] at h
      refine Af fun K10 hK10=>?_
      simp (disch:=omega) only [eq_self,amL,amT,sA,sF,sG,↓reduceIte,reduceCtorEq]
      repeat' first | (refine B2 (fun h=>?_) (fun h=>?_) <;> simp (disch:=omega) only [h,hr,G4,ne_eq,eq_self,not_true_eq_false,decide_false,amL,amT,sA,sB,sC,sD,sE,sF,sG,sH,sI,sJ,sK,sL,sM,sN,sO,↓reduceIte,reduceCtorEq]) | (refine Ba (fun h=>?_) (fun h=>?_) <;> simp (disch:=omega) only [h,hr,G4,ne_eq,eq_self,not_true_eq_false,decide_false,amL,amT,sA,sB,sC,sD,sE,sF,sG,sH,sI,sJ,sK,sL,sM,sN,sO,↓reduceIte,reduceCtorEq]) | (refine Am (by kernel_rfl) rfl (Ri _ _ _) (by first | exact .inl rfl | exact .inr (.inl rfl)) ?_ ; simp (disch:=omega) only [hr,eq_self,amL,amT,sA,sF,↓reduceIte,reduceCtorEq]) | (refine Nh (bd:=30) (by decide) (Ao6 s hS) (Ha rfl) (by decide) rfl ?_ ; simp (disch:=omega) only [G4,eq_self,amL,sA,sF,↓reduceIte])
      all_goals
       skip
       refine hK10 _ ?_
       refine Ag rfl (fun h=>MT.x ?_) (fun h=>ME.x ?_)
       all_goals
        first
        |refine MT.mk ?_
         first
         |exact Bool.noConfusion h
         |skip
          try simp only [nrm] at h
          refine Af fun K11 hK11=>?_
          simp (disch:=omega) only [hr,G4,ne_eq,eq_self,not_true_eq_false,decide_false,amL,amT,sA,sB,sC,sD,sE,sF,sG,sH,sI,sJ,sK,sL,sM,sN,sO,↓reduceIte,reduceCtorEq]
          refine hK11 _ ?_
          refine Ae ?_
          try simp (disch:=omega) only [hr,G4,ne_eq,eq_self,not_true_eq_false,decide_false,amL,amT,sA,sB,sC,sD,sE,sF,sG,sH,sI,sJ,sK,sL,sM,sN,sO,↓reduceIte,reduceCtorEq]
          all_goals first | rfl | (exfalso; omega) | (simp_all; done) | (simp_all; omega) | trace_state
        |refine ME.mk ?_
         first
         |exact Bool.noConfusion h
         |skip
          try simp only [] at h
          refine Aj ?_
          refine hK7 _ ?_
   all_goals
    skip
    refine Af fun K12 hK12=>?_
    simp (disch:=omega) only [eq_self,amL,sA]
    refine hK12 _ ?_
    refine Ae ?_
    try simp (disch:=omega) only [eq_self,amL,↓reduceIte]
    all_goals first | rfl | (exfalso; omega) | (simp_all; done) | (simp_all; omega) | trace_state
abbrev Fw (s:Sto) (kn:AV) (lo hi:List Int):List AV:=isl s.t.w :: isl s.t.m :: .p (slI s.t.v) :: i64 s.r :: .p (slC s.c) :: kn :: (lo.map (fun n=>i64 n)++hi.map (fun n=>i64 n))
def J8 (s:Sto) (k:Nat):List Rng:=(s.c.take k).map (D6 s)
def loL (s:Sto) (k:Nat):List Int:=(J8 s k).map (·.lo)++List.replicate (6 - k) 0
def hiL (s:Sto) (k:Nat):List Int:=(J8 s k).map (·.hi)++List.replicate (6 - k) 0
theorem Gu {s:Sto} {k:Nat} (h:k≤s.c.length):(J8 s k).length=k:=by
  unfold J8; rw [List.length_map,List.length_take]; omega
theorem S5 {s:Sto} {k:Nat} (h:k≤s.c.length) (h6:s.c.length≤6):(loL s k).length=6:=by
  unfold loL; rw [List.length_append,List.length_map,Gu h,List.length_replicate]; omega
theorem Yv {s:Sto} {k:Nat} (h:k≤s.c.length) (h6:s.c.length≤6):(hiL s k).length=6:=by
  unfold hiL; rw [List.length_append,List.length_map,Gu h,List.length_replicate]; omega
theorem Rw {s:Sto} {k:Nat} (h:k < s.c.length):J8 s (k+1)=J8 s k++[D6 s (s.c.getD k default)]:=by
  unfold J8
  rw [← List.take_append_getElem h,List.map_append,List.getElem_eq_getD default]; rfl
theorem W5 {α β:Type} {f:α→β} {l:List α} {x:α} {z:β} {k m:Nat} (hk:l.length=k) (hm:k < m):((l.map f++List.replicate (m - k) z).set k (f x))=(l++[x]).map f++List.replicate (m - (k+1)) z:=by
  subst hk
  obtain ⟨j,hj⟩:∃ j,m - l.length=j+1:=⟨m - l.length - 1,by omega⟩
  rw [hj,show m - (l.length+1)=j by omega,List.replicate_succ,List.set_append_right (h:=by rw [List.length_map]; omega),List.length_map,Nat.sub_self,List.set_cons_zero,List.map_append,List.append_assoc]; rfl
theorem Aij {s:Sto} {k:Nat} (h:k < s.c.length) (h6:s.c.length≤6):(loL s k).set k (D6 s (s.c.getD k default)).lo=loL s (k+1):=by
  unfold loL
  rw [Rw h]
  exact W5 (f:=fun r:Rng=>r.lo) (Gu (by omega)) (by omega)
theorem Aip {s:Sto} {k:Nat} (h:k < s.c.length) (h6:s.c.length≤6):(hiL s k).set k (D6 s (s.c.getD k default)).hi=hiL s (k+1):=by
  unfold hiL
  rw [Rw h]
  exact W5 (f:=fun r:Rng=>r.hi) (Gu (by omega)) (by omega)
theorem Am9 {s:Sto} {kn:AV} {lo hi:List Int} {k:Nat} {x:Int} (h:k < lo.length):(Fw s kn lo hi).set (6+k) (i64 x)=Fw s kn (lo.set k x) hi:=by
  rw [Nat.add_comm]
  show _ :: _ :: _ :: _ :: _ :: _ :: (lo.map (fun n=>i64 n)++hi.map (fun n=>i64 n)).set k (i64 x)=_
  rw [List.set_append_left (h:=by rw [List.length_map]; exact h),← List.map_set (f:=fun n=>i64 n)]
theorem Ang {s:Sto} {kn:AV} {lo hi:List Int} {k:Nat} {x:Int} (h:lo.length=6):(Fw s kn lo hi).set (12+k) (i64 x)=Fw s kn lo (hi.set k x):=by
  rw [show 12+k=(6+k)+6 by omega]
  show _ :: _ :: _ :: _ :: _ :: _ :: (lo.map (fun n=>i64 n)++hi.map (fun n=>i64 n)).set (6+k) (i64 x)=_
  rw [List.set_append_right (h:=by rw [List.length_map]; omega),List.length_map,h,show 6+k - 6=k by omega,← List.map_set (f:=fun n=>i64 n)]
theorem Ao5 {X:Nat→Option AO} {a b:Nat} {x y z:Option AO} (h:a≠b):upd (upd (upd X a x) b y) a z=upd (upd X a z) b y:=by
  rw [Cq h,C1]; exact (Cq h).symm
theorem Alf {os:Nat→Option AO} {n k:Nat} {es:List (List PV)} (hcl:(Hp os).closed):(Hp (upd os n (some (.arr k es)))).closed:=Bc hcl (AO.lives_arr _ _ _)
theorem Za {X:Nat→Option AO} {b n k:Nat} {s:Sto} {lo hi:List Int} {es:List (List PV)} (hcl:(Hp X).closed) (hne:b≠n):(Hp (upd (upd X b (some (.cells (Fw s (.own n k) lo hi)))) n (some (.arr 2 es)))).closed:=by
  rw [Cq hne]
  refine Bc (Alf hcl) (AO.lives_cells.2 fun i x hx=>?_)
  have hx:=List.mem_of_getElem? hx
  simp only [Fw,List.mem_cons,List.mem_append,List.mem_map] at hx
  rcases hx with rfl | rfl | rfl | rfl | rfl | rfl | ⟨_,_,rfl⟩ | ⟨_,_,rfl⟩ <;> try exact AV.lives_p _ _
  intro m hm
  simp only [AV.clean,bne_eq_false_iff_eq] at hm
  subst hm
  have h9:(upd (upd X n (some (.arr 2 es))) b (some (.cells (Fw s (.own n k) lo hi))) n).isSome=true:=by rw [Ad (Ne.symm hne),Ak]; rfl
  exact h9
theorem Ap2 {l:List (Nat × AV)} {X:Nat→Option AO} {b n k:Nat} {cs:List AV} {es:List (List PV)} (hcl:(Hp X).closed) (hn:X n=none) (hne:b≠n):St.frz n es ⟨T l,upd (upd X b (some (.cells cs))) n (some (.arr k es))⟩=⟨T (Ail n es l),upd X b (some (.cells (cs.map (AV.frz n es))))⟩:=by
  unfold St.frz
  rw [Aqy]
  congr 1
  funext m
  by_cases e:m=n
  · subst e; rw [if_pos rfl,Ad (Ne.symm hne),hn]
  · rw [if_neg e]
    show (upd (upd X b _) n _ m).map _=_
    rw [Ad e]
    by_cases e2:m=b
    · subst e2; rw [Ak,Ak]; rfl
    · rw [Ad e2,Ad e2]
      cases ho:X m with
      | none=>rfl
      | some o=>
        rw [Option.map_some,AO.frz_id o]
        cases hc:o.clean n with
        | true=>rfl
        | false=>
          have:(X n).isSome=true:=hcl.2 m o ho n hc
          rw [hn] at this; cases this
theorem Ah7 {s:Sto} {n k:Nat} {lo hi:List Int} {es:List (List PV)} (h:k=es.length):(Fw s (.own n k) lo hi).map (AV.frz n es)=Fw s (.p (.sl es)) lo hi:=by
  subst h
  have e:∀ l:List Int,(l.map fun n=>i64 n).map (AV.frz n es)=l.map fun n=>i64 n:=fun l=>by rw [List.map_map]; rfl
  simp only [Fw,List.map_cons,List.map_append,e]
  congr 5
  simp [AV.frz]
theorem Aa0 {s:Sto} {es:List (List PV)} {lo hi:List Int}:∀ x ∈ Fw s (.p (.sl es)) lo hi,x.isP=true:=fun x hx=>by
  simp only [Fw,List.mem_cons,List.mem_append,List.mem_map] at hx
  rcases hx with rfl | rfl | rfl | rfl | rfl | rfl | ⟨_,_,rfl⟩ | ⟨_,_,rfl⟩ <;> rfl
theorem Ja {l:List Int} {n:Nat}:(l.map fun m=>i64 m).map (AV.purge n)=l.map fun m=>i64 m:=by
  rw [List.map_map]; exact List.map_congr_left fun x _=>by simp only [Function.comp,Ma]
theorem Alk {os:Nat→Option AO} {b1 b17 b7 b8 b38 b39:Nat} {c1 o17 W W' E E' o7 o8 o38:Option AO} (d1:b1 < b7) (d2:b7 < b8) (d3:b8 < b17) (d4:b17 < b38) (d5:b38 < b39) (f7:os b7=none) (f8:os b8=none) (f38:os b38=none) (eW:W'=W) (eE:E'=E) :
    Sub (upd (upd (upd os b1 c1) b17 W) b39 E) (upd (upd (upd (upd (upd (upd (upd os b1 c1) b17 o17) b7 o7) b8 o8) b38 o38) b39 E') b17 W'):=by
  subst eW eE
  intro z
  by_cases h17:z=b17
  · right; subst h17; rw [Ad (by omega),Ak,Ak]
  · by_cases h39:z=b39
    · right; subst h39; rw [Ak,Ad h17,Ak]
    · rw [Ad h39,Ad h17,Ad h17,Ad h39]
      by_cases h38:z=b38
      · left; subst h38; rw [Ad (by omega)]; exact f38
      · rw [Ad h38]
        by_cases h8:z=b8
        · left; subst h8; rw [Ad (by omega)]; exact f8
        · rw [Ad h8]
          by_cases h7:z=b7
          · left; subst h7; rw [Ad (by omega)]; exact f7
          · right; rw [Ad h7,Ad h17]
theorem Af9 {s:Sto} {kn:AV} {k:Nat} (h:k < s.c.length) (h6:s.c.length≤6):((Fw s kn (loL s k) (hiL s k)).set (6+k) (i64 (D6 s (s.c.getD k default)).lo)).set (12+k) (i64 (D6 s (s.c.getD k default)).hi)=Fw s kn (loL s (k+1)) (hiL s (k+1)):=by
  have hl:=S5 (s:=s) (k:=k) (by omega) h6
  rw [Am9 (by omega),Ang (by rw [List.length_set]; exact hl),Aij h h6,Aip h h6]
theorem Akd {s:Sto} {k:Nat} (h:k < s.c.length):(J8 s k).map F2++[F2 (D6 s (s.c.getD k default))]=(J8 s (k+1)).map F2:=by
  rw [Rw h,List.map_append]; rfl
theorem Yg {s:Sto} (hS:Ku s) {os:Nat→Option AO} {bd:Nat} :
    Bm Try.prog bd (.fn (.func 52) [] []) [avO s] os fun res os'=>res=.tup [.ptr (bd+17) 0,i64 0]∧os'=upd os (bd+17) (some (.cells (Fw s (.p (.sl ((J8 s s.c.length).map F2))) (loL s s.c.length) (hiL s s.c.length)))):=by
  have hn:=hS.n
  refine Bn (v:=[]) (q:=[]) (N:=58) (rs:=[.tmp 2,.tmp 3]) Try.func52 rfl (by kernel_rfl) rfl rfl (fun hcl hfree=>?_)
  have hfr0:∀ k,os (bd+k)=none:=fun k=>hfree _ (by omega)
  have hpg:∀ k,pgO (bd+k) os=os:=fun k=>Ahx hcl (hfr0 k)
  refine Af fun K1 hK1=>?_
  simp (disch:=omega) only [hfr0,amL,sA,↓reduceIte]
  refine hK1 _ ?_
  refine Aa fun K2 hK2=>?_
  refine Af fun K3 hK3=>?_
  simp (disch:=omega) only [List.map_cons,List.map_nil,amL,amT,sA,sB,sF,↓reduceIte]
  repeat' first | (refine Am (by kernel_rfl) rfl (Akr s hS) (by first | exact .inl rfl | exact .inr (.inl rfl)) ?_ ; simp (disch:=omega) only [amL,sA,↓reduceIte])
  refine hK3 _ ?_
  refine Af fun K4 hK4=>?_
  simp (disch:=omega) only [amL,amT,sA,↓reduceIte]
  refine hK4 _ ?_
  refine Ag rfl (fun h=>MT.x ?_) (fun h=>ME.x ?_)
  all_goals
   first
   |refine MT.mk ?_
    first
    |exact Bool.noConfusion h
    |skip
     try simp only [nrm] at h
     refine Af fun K5 hK5=>?_
     simp (disch:=omega) only [Km,Ql,M6,hpg,Ja,F1,Hx,List.map_cons,List.map_nil,List.map_append,Ma,hfr0,Ad,C1,C5,amL,amT,sA,sB,sC,sD,sE,sF,sG,sH,sI,sJ,sK,sL,sM,sN,sO,↓reduceIte,reduceCtorEq]
     refine hK5 _ ?_
     refine Ae ?_
     try simp (disch:=omega) only [Km,Ql,M6,hpg,Ja,F1,Hx,List.map_cons,List.map_nil,List.map_append,Ma,hfr0,Ad,C1,C5,amL,amT,sA,sB,sC,sD,sE,sF,sG,sH,sI,sJ,sK,sL,sM,sN,sO,↓reduceIte,reduceCtorEq]
     refine Az (res:=.tup [.ptr (bd+17) 0,i64 0]) (upd os (bd+17) (some (.cells (Fw s (.p (.sl ((J8 s s.c.length).map F2))) (loL s s.c.length) (hiL s s.c.length))))) (by first | rfl | (simp (disch:=omega) only [Km,Ql,M6,hpg,Ja,F1,Hx,List.map_cons,List.map_nil,List.map_append,Ma,hfr0,Ad,C1,C5,amL,amT,sA,sB,sC,sD,sE,sF,sG,sH,sI,sJ,sK,sL,sM,sN,sO,↓reduceIte,reduceCtorEq]; try rfl)) (by first | ((repeat' first | exact Sub.refl _ | refine Sub.skip (by first | exact hfr0 _ | (simp (disch:=omega) only [Ad]; exact hfr0 _)) ?_ | refine Sub.both ?_); done) | fail) (Ex hcl Aa0) ?_ ⟨rfl,rfl⟩
     rw [Lk,Ax,Ax,A8,Bz]; exact ⟨by rw [Ak]; rfl,AV.lives_p _ _,trivial⟩
   |refine ME.mk ?_
    first
    |exact Bool.noConfusion h
    |skip
     try simp only [nrm] at h
     refine Aj ?_
     refine hK2 _ ?_
  all_goals
   skip
   refine Af fun K6 hK6=>?_
   simp (disch:=omega) only [List.map_cons,List.map_nil,hfr0,Ad,amL,amT,sA,sB,sE,sF,↓reduceIte]
   refine hK6 _ ?_
   refine Aa fun K7 hK7=>?_
   refine Af fun K8 hK8=>?_
   simp (disch:=omega) only [Ad,amL,amT,sA,sF,↓reduceIte,reduceCtorEq]
   refine hK8 _ ?_
   refine Ai ?_
   refine Vf (bd+39) 2 (bd+17) 5 (Nat.le_add_right _ _) Ak rfl (by simp (disch:=omega) only [Ad]; exact hfr0 _) ?_
   show AWP _ _ _ _ ⟨T _,upd (upd (upd (upd os (bd+1) _) (bd+17) _) (bd+39) _) (bd+17) _⟩ _
   rw [Ao5 (by omega)]
   refine A7 (α:=Nat) (fun k=>⟨T [(1,.ptr (bd+1) 0),(5,.ptr (bd+17) 0),(19,.p (slC s.c)),(20,i64 s.c.length),(21,i64 (k:Int))],upd (upd (upd os (bd+1) (some (.cells (cO s)))) (bd+17) (some (.cells (Fw s (.own (bd+39) k) (loL s k) (hiL s k))))) (bd+39) (some (.arr 2 ((J8 s k).map F2)))⟩) (fun k=>s.c.length - k) (fun k=>k≤s.c.length) 0 ?_ ?_ (fun k hx9 K9 hK9=>?_)
   · exact Nat.zero_le _
   · refine Dz ?_ ?_ ?_ ?_ <;> (try simp (disch:=omega) only [Ad,amL,sF,↓reduceIte]); all_goals first | exact Sub.refl _ | exact Za (Ex hcl (by simp [AV.isP])) (by omega) | trace_state
   have hk:=hx9
   refine Af fun K10 hK10=>?_
   simp (disch:=omega) only [amL,amT,sA,sF,↓reduceIte]
   refine hK10 _ ?_
   refine Aa fun K11 hK11=>?_
   refine Ag rfl (fun h=>MT.x ?_) (fun h=>ME.x ?_)
   all_goals
    first
    |refine MT.mk ?_
     first
     |exact Bool.noConfusion h
     |skip
      try simp only [nrm] at h
      refine Aj ?_
      refine hK11 _ ?_
    |refine ME.mk ?_
     first
     |exact Bool.noConfusion h
     |skip
      try simp only [nrm] at h
      refine Bg ?_
      refine hK7 _ ?_
      refine Aa fun K12 hK12=>?_
      obtain rfl:k=s.c.length:=by omega
      refine Ana (bd+39) (k:=2) (es:=(J8 s s.c.length).map F2) Ak ?_
      rw [Ap2 (Ex hcl (by simp [AV.isP])) (by simp (disch:=omega) only [Ad]; exact hfr0 _) (by omega),Ah7 (by rw [List.length_map,Gu (Nat.le_refl _)])]
      simp (disch:=omega) only [Ail,AV.frz,if_neg]
      refine Ac ?_
      simp (disch:=omega) only [amL,sA,sF,↓reduceIte]
      refine hK12 _ ?_
      refine Ae ?_
      try simp (disch:=omega) only [amL]
      refine Az (res:=.tup [.ptr (bd+17) 0,i64 0]) (upd os (bd+17) (some (.cells (Fw s (.p (.sl ((J8 s s.c.length).map F2))) (loL s s.c.length) (hiL s s.c.length))))) (by first | rfl | (simp (disch:=omega) only [Km,Ql,M6,hpg,Ja,F1,Hx,List.map_cons,List.map_nil,List.map_append,Ma,hfr0,Ad,C1,C5,amL,amT,sA,sB,sC,sD,sE,sF,sG,sH,sI,sJ,sK,sL,sM,sN,sO,↓reduceIte,reduceCtorEq]; try rfl)) (by first | ((repeat' first | exact Sub.refl _ | refine Sub.skip (by first | exact hfr0 _ | (simp (disch:=omega) only [Ad]; exact hfr0 _)) ?_ | refine Sub.both ?_); done) | fail) (Ex hcl Aa0) ?_ ⟨rfl,rfl⟩
      rw [Lk,Ax,Ax,A8,Bz]; exact ⟨by rw [Ak]; rfl,AV.lives_p _ _,trivial⟩
   all_goals
    skip
    refine Aa fun K13 hK13=>?_
    refine Ai ?_
    refine Af fun K14 hK14=>?_
    simp (disch:=omega) only [List.map_cons,List.map_nil,hfr0,Ad,C1,C5,amL,amT,sA,sB,sF,↓reduceIte]
    refine hK14 _ ?_
    refine Af fun K15 hK15=>?_
    simp (disch:=omega) only [List.map_cons,List.map_nil,Ad,amL,amT,sA,sB,sF,↓reduceIte]
    repeat' first | (refine Am (by kernel_rfl) rfl (Aji s (s.c.getD k default) hS.t (List.all_eq_true.1 hS.c _ (Ee default (by omega)))) (by first | exact .inl rfl | exact .inr (.inl rfl)) ?_ ; simp (disch:=omega) only [hfr0,Ad,C1,amL,amT,sA,sB,sF,↓reduceIte])
    refine hK15 _ ?_
    refine Aa fun K16 hK16=>?_
    refine Xk [] [35,36,38,41] (by kernel_rfl) (by kernel_rfl) (by kernel_rfl) ⟨by (simp (disch:=omega) only [Ad]; exact hfr0 _),by (simp (disch:=omega) only [Ad]; exact hfr0 _),by (simp (disch:=omega) only [Ad]; exact hfr0 _),by (simp (disch:=omega) only [Ad]; exact hfr0 _),trivial⟩ ?_
    have hln:=Gu (s:=s) (k:=k) (by omega)
    have hlo:=S5 (s:=s) (k:=k) (by omega) hn
    have hhi:=Yv (s:=s) (k:=k) (by omega) hn
    simp (disch:=omega) only [List.length_append,hlo,hhi,Km,Ql,M6,hpg,Ja,F1,Hx,List.map_cons,List.map_nil,List.map_append,Ma,hfr0,Ad,amL,amT,sA,sB,sC,sE,sF,↓reduceIte,reduceCtorEq]
    refine hK16 _ ?_
    refine Xk [.sto [8] 52,.sto [48] 52] [46,47,48,49,51,52,54,55] (by kernel_rfl) (by kernel_rfl) (by kernel_rfl) ⟨by (simp (disch:=omega) only [Ad]; exact hfr0 _),by (simp (disch:=omega) only [Ad]; exact hfr0 _),by (simp (disch:=omega) only [Ad]; exact hfr0 _),by (simp (disch:=omega) only [Ad]; exact hfr0 _),by (simp (disch:=omega) only [Ad]; exact hfr0 _),by (simp (disch:=omega) only [Ad]; exact hfr0 _),by (simp (disch:=omega) only [Ad]; exact hfr0 _),by (simp (disch:=omega) only [Ad]; exact hfr0 _),trivial⟩ ?_
    have hlo:=S5 (s:=s) (k:=k) (by omega) hn
    have hhi:=Yv (s:=s) (k:=k) (by omega) hn
    simp (disch:=omega) only [List.length_append,List.length_set,hlo,hhi,Ad,C1,amL,amT,sA,sB,sE,sF,sH,↓reduceIte,reduceCtorEq]
    refine ⟨by simp [Cf.ok,Lj,T,AV.known,AV.clean],?_⟩
    all_goals
     skip
     refine hK13 _ ?_
     refine Ac ?_
     simp (disch:=omega) only [amL,amT,sA,sF,↓reduceIte]
     refine hK9 (k+1) _ ?_ ?_ (Dz ?_ ?_ ?_ ?_)
     all_goals (try simp (disch:=omega) only [Ad,amL,sF,↓reduceIte])
     all_goals first | omega | exact Za (Ex hcl (by simp [AV.isP])) (by omega) | exact Alk (by omega) (by omega) (by omega) (by omega) (by omega) (hfr0 7) (hfr0 8) (hfr0 38) (congrArg (fun c=>some (AO.cells c)) (Af9 (by omega) hn)) (congrArg (fun c=>some (AO.arr 2 c)) (Akd (by omega))) | trace_state
theorem Ama {s:Sto} (hS:Ku s):Bf Try.prog 12 [avO s] (.tup [.p (.sl ((J8 s s.c.length).map F2)),i64 0]):=by
  refine Au (v:=[52]) (q:=[]) (N:=18) (rs:=[.tmp 2,.tmp 3]) Try.func12 rfl rfl rfl rfl rfl ?_
  refine Af fun K1 hK1=>?_
  simp (disch:=omega) only [amL,sA,↓reduceIte]
  refine hK1 _ ?_
  refine Af fun K2 hK2=>?_
  simp (disch:=omega) only [amL,amT,sA,sB,sF,↓reduceIte]
  refine Be [(1,.ptr 1 0)] (by decide) (Yg hS (bd:=18)) (Ha rfl) (by decide) (fun res os2 hR hcl2 hlv2=>?_)
  obtain ⟨rfl,rfl⟩:=hR
  simp (disch:=omega) only [amL,sA,sB,sF,↓reduceIte]
  refine hK2 _ ?_
  refine Aa fun K3 hK3=>?_
  refine Af fun K4 hK4=>?_
  simp (disch:=omega) only [amL,amT,sA,↓reduceIte]
  refine hK4 _ ?_
  refine Ag rfl (fun h=>MT.x ?_) (fun h=>ME.x ?_)
  all_goals
   first
   |refine MT.mk ?_
    first
    |exact Bool.noConfusion h
    |skip
     try simp only [nrm] at h
     refine Af fun K5 hK5=>?_
     simp (disch:=omega) only [Ad,amL,amT,sA,sB,sC,sD,sE,sF,sG,sH,sI,sJ,sK,sL,sM,sN,sO,↓reduceIte,reduceCtorEq]
     refine hK5 _ ?_
     refine Ae ?_
     try simp (disch:=omega) only [Ad,amL,amT,sA,sB,sC,sD,sE,sF,sG,sH,sI,sJ,sK,sL,sM,sN,sO,↓reduceIte,reduceCtorEq]
     all_goals first | rfl | trace_state
   |refine ME.mk ?_
    first
    |exact Bool.noConfusion h
    |skip
     try simp only [nrm] at h
     refine Aj ?_
     refine hK3 _ ?_
  all_goals
   skip
   refine Af fun K6 hK6=>?_
   simp (disch:=omega) only [amL,amT,sA,sF,↓reduceIte,reduceCtorEq]
   refine hK6 _ ?_
   refine Ae ?_
   try simp (disch:=omega) only [amL,sF,↓reduceIte]
   all_goals first | rfl | trace_state
abbrev knT (s:Sto):AV:=.p (.sl ((J8 s s.c.length).map F2))
def owX (s:Sto) (n:Int):Int:=(n * s.r+10 - 1) / 10
theorem Uz (g n:Int) (hg:0≤g∧g≤99) (hn:0≤n∧n≤2000):Bf Try.prog 65 [i64 g,i64 n] (i64 (g * n / 100)):=by
  have hm:=Ep hg.1 hg.2 hn.1 hn.2
  refine Au (v:=[]) (q:=[]) (N:=9) (rs:=[.tmp 4]) Try.func65 rfl rfl rfl rfl rfl ?_
  refine Af fun K1 hK1=>?_
  simp (disch:=omega) only [amL,sA,sB]
  refine hK1 _ ?_
  refine Af fun K2 hK2=>?_
  simp (disch:=omega) only [amL,amT,sA,sF,sO,↓reduceIte,reduceCtorEq]
  refine hK2 _ ?_
  refine Ae ?_
  try simp (disch:=omega) only [amL,↓reduceIte]
  all_goals first | rfl | trace_state
theorem Amb (s:Sto) (n:Int) (hn:0≤n∧n≤2000) (hr:0≤s.r∧s.r≤200):Bf Try.prog 117 [avO s,i64 n] (i64 (owX s n)):=by
  have hm:=Ep hn.1 hn.2 hr.1 hr.2
  refine Au (v:=[]) (q:=[]) (N:=12) (rs:=[.tmp 4]) Try.func117 rfl rfl rfl rfl rfl ?_
  refine Af fun K1 hK1=>?_
  simp (disch:=omega) only [amL,sA,sB,↓reduceIte]
  refine hK1 _ ?_
  refine Af fun K2 hK2=>?_
  simp (disch:=omega) only [amL,amT,sA,sF,sO,↓reduceIte,reduceCtorEq]
  refine hK2 _ ?_
  refine Ae ?_
  try simp (disch:=omega) only [amL,↓reduceIte]
  all_goals first | rfl | trace_state
structure Axm (s:Sto) (l:List Int):Prop where
  len:l.length=s.c.length
  pt:∀ i,i < s.c.length→(D6 s (s.c.getD i default)).lo≤l.getD i 0∧l.getD i 0≤(D6 s (s.c.getD i default)).hi
theorem Axw {s:Sto} {k:Nat} (h:k < s.c.length):((J8 s s.c.length).map F2).getD k []=F2 (D6 s (s.c.getD k default)):=by
  rw [Dx (by rw [Gu (Nat.le_refl _)]; exact h)]
  unfold J8
  rw [List.take_length,E6 (D6 s) default default h]
theorem D8 (s:Sto):(J8 s s.c.length).length=s.c.length:=Gu (Nat.le_refl _)
theorem Ahv {s:Sto} {l:List Int} {lo hi:List Int} {nw:Nat} {os:Nat→Option AO} {bd:Nat} (h6:s.c.length≤6) (hT:Axm s l) (hw:os nw=some (.cells (Fw s (knT s) lo hi))) :
    Bm Try.prog bd (.fn (.func 64) [] []) [.ptr nw 0,isl l] os fun res os'=>res=bl true∧os'=os:=by
  have hTl:=hT.len
  refine Bn (v:=[]) (q:=[]) (N:=36) (rs:=[.tmp 4]) Try.func64 rfl (by kernel_rfl) rfl rfl (fun hcl hfree=>?_)
  have hfr0:∀ k,os (bd+k)=none:=fun k=>hfree _ (by omega)
  have hb:=Al hfree hw
  refine Af fun K1 hK1=>?_
  simp (disch:=omega) only [eq_self,amL,sA,sB]
  refine hK1 _ ?_
  refine Aa fun K2 hK2=>?_
  refine Af fun K3 hK3=>?_
  simp (disch:=omega) only [hw,hTl,D8,ne_eq,eq_self,not_true_eq_false,decide_false,amL,amT,sA,sF,↓reduceIte,reduceCtorEq]
  refine hK3 _ ?_
  refine Ag rfl (fun h=>MT.x ?_) (fun h=>ME.x ?_)
  all_goals
   first
   |refine MT.mk ?_
    first
    |exact Bool.noConfusion h
    |skip
     try simp only [nrm] at h
     refine Af fun K4 hK4=>?_
     simp (disch:=omega) only [hw,hTl,hfr0,Ad,D8,B1,ne_eq,eq_self,not_true_eq_false,decide_false,amL,amT,sA,sB,sC,sD,sE,sF,sG,sH,sI,sJ,sK,sL,sM,sN,sO,↓reduceIte,reduceCtorEq]
     refine hK4 _ ?_
     refine Ae ?_
     try simp (disch:=omega) only [hw,hTl,hfr0,Ad,D8,B1,ne_eq,eq_self,not_true_eq_false,decide_false,amL,amT,sA,sB,sC,sD,sE,sF,sG,sH,sI,sJ,sK,sL,sM,sN,sO,↓reduceIte,reduceCtorEq]
     all_goals first
       | (refine Az (res:=bl true) os rfl (by first | ((repeat' first | exact Sub.refl _ | refine Sub.skip (by first | exact hfr0 _ | (simp (disch:=omega) only [Ad]; exact hfr0 _)) ?_ | refine Sub.both ?_); done) | fail) hcl (AV.lives_p _ _) ⟨rfl,rfl⟩; done)
       | trace_state
   |refine ME.mk ?_
    first
    |exact Bool.noConfusion h
    |skip
     try simp only [] at h
     refine Aj ?_
     refine hK2 _ ?_
  all_goals
   skip
   refine Aa fun K5 hK5=>?_
   refine Af fun K6 hK6=>?_
   simp (disch:=omega) only [hw,D8,eq_self,amL,amT,sA,↓reduceIte,reduceCtorEq]
   refine hK6 _ ?_
   refine Ai ?_
   skip
   refine A7 (α:=Nat) (fun k=>⟨T [(0,.ptr nw 0),(1,isl l),(18,knT s),(19,i64 s.c.length),(20,i64 (k:Int))],os⟩) (fun k=>s.c.length - k) (fun k=>k≤s.c.length) 0 ?_ ?_ (fun k hx7 K7 hK7=>?_)
   · exact Nat.zero_le _
   · refine Dz ?_ ?_ ?_ ?_ <;> (try simp (disch:=omega) only [hw,eq_self,amL,sF,↓reduceIte,reduceCtorEq]); all_goals first | exact Sub.refl _ | exact hcl | rfl | trace_state
   have hk:=hx7
   refine Af fun K8 hK8=>?_
   simp (disch:=omega) only [eq_self,amL,amT,sA,sF,↓reduceIte,reduceCtorEq]
   refine hK8 _ ?_
   refine Aa fun K9 hK9=>?_
   refine Ag rfl (fun h=>MT.x ?_) (fun h=>ME.x ?_)
   all_goals
    first
    |refine MT.mk ?_
     first
     |exact Bool.noConfusion h
     |skip
      try simp only [nrm] at h
      refine Aj ?_
      refine hK9 _ ?_
    |refine ME.mk ?_
     first
     |exact Bool.noConfusion h
     |skip
      try simp only [nrm] at h
      refine Bg ?_
      refine hK5 _ ?_
      refine Af fun K10 hK10=>?_
      simp (disch:=omega) only [eq_self,amL,sA]
      refine hK10 _ ?_
      refine Ae ?_
      try simp (disch:=omega) only [amL]
      all_goals first
        | (refine Az (res:=bl true) os rfl (by first | ((repeat' first | exact Sub.refl _ | refine Sub.skip (by first | exact hfr0 _ | (simp (disch:=omega) only [Ad]; exact hfr0 _)) ?_ | refine Sub.both ?_); done) | fail) hcl (AV.lives_p _ _) ⟨rfl,rfl⟩; done)
        | trace_state
   all_goals
    skip
    refine Aa fun K11 hK11=>?_
    refine Ai ?_
    refine Af fun K12 hK12=>?_
    have hkn:=Axw (s:=s) (k:=k) (by omega)
    have hta:=hT.pt k (by omega)
    have hin:inB (l.getD k 0) (D6 s (s.c.getD k default)).lo (D6 s (s.c.getD k default)).hi=true:=by simp only [inB,Bool.and_eq_true,decide_eq_true_eq]; exact hta
    simp (disch:=omega) only [hkn,hfr0,D8,eq_self,amL,amT,sA,sB,sF,↓reduceIte,reduceCtorEq]
    refine hK12 _ ?_
    refine Aa fun K13 hK13=>?_
    refine Bk (by kernel_rfl) (by kernel_rfl) ?_
    simp (disch:=omega) only [hTl,B1,eq_self,amL,amT,sA,sF,↓reduceIte,reduceCtorEq]
    repeat' first | (refine Am (by kernel_rfl) rfl (Ri _ _ _) (by first | exact .inl rfl | exact .inr (.inl rfl)) ?_ ; simp (disch:=omega) only [hin,eq_self,amL,sA,↓reduceIte])
    refine hK13 _ ?_
    refine Ag rfl (fun h=>MT.x ?_) (fun h=>ME.x ?_)
    all_goals
     first
     |refine MT.mk ?_
      first
      |exact Bool.noConfusion h
      |skip
       try simp only [nrm] at h
       refine Af fun K14 hK14=>?_
       simp (disch:=omega) only [hw,hTl,hfr0,Ad,D8,B1,ne_eq,eq_self,not_true_eq_false,decide_false,amL,amT,sA,sB,sC,sD,sE,sF,sG,sH,sI,sJ,sK,sL,sM,sN,sO,↓reduceIte,reduceCtorEq]
       refine hK14 _ ?_
       refine Ae ?_
       try simp (disch:=omega) only [hw,hTl,hfr0,Ad,D8,B1,ne_eq,eq_self,not_true_eq_false,decide_false,amL,amT,sA,sB,sC,sD,sE,sF,sG,sH,sI,sJ,sK,sL,sM,sN,sO,↓reduceIte,reduceCtorEq]
       all_goals first
         | (refine Az (res:=bl true) os rfl (by first | ((repeat' first | exact Sub.refl _ | refine Sub.skip (by first | exact hfr0 _ | (simp (disch:=omega) only [Ad]; exact hfr0 _)) ?_ | refine Sub.both ?_); done) | fail) hcl (AV.lives_p _ _) ⟨rfl,rfl⟩; done)
         | trace_state
     |refine ME.mk ?_
      first
      |exact Bool.noConfusion h
      |skip
       try simp only [] at h
       refine Aj ?_
       refine hK11 _ ?_
    all_goals
     skip
     refine Ac ?_
     simp (disch:=omega) only [eq_self,amL,amT,sA,sF,↓reduceIte,reduceCtorEq]
     refine hK7 (k+1) _ ?_ ?_ (Dz ?_ ?_ ?_ ?_)
     all_goals (try simp (disch:=omega) only [hw,eq_self,amL,sF,↓reduceIte,reduceCtorEq])
     all_goals first | omega | exact hcl | (refine fun z=>?_ ; by_cases e:z=bd+6 ; (left; subst e; exact hfr0 6) ; (right; simp (disch:=omega) only [Ad])) | trace_state
def Rz (s:Sto) (l:List Int) (k:Nat):List Int:=(List.range k).map fun i=>(s.c.getD i default).g * l.getD i 0 / 100
theorem E8 {s:Sto} {l:List Int} {k:Nat}:(Rz s l k).length=k:=by simp [Rz]
theorem Xq {s:Sto} {l:List Int} {k:Nat}:Rz s l (k+1)=Rz s l k++[(s.c.getD k default).g * l.getD k 0 / 100]:=by
  unfold Rz; rw [List.range_succ,List.map_append]; rfl
theorem n42 {s:Sto} {l:List Int} {k:Nat}:(Rz s l k).map V3++[[iv ((s.c.getD k default).g * l.getD k 0 / 100)]]=(Rz s l (k+1)).map V3:=by rw [Xq,List.map_append]; rfl
theorem Aqs {s:Sto} (hS:Ku s) {l:List Int} (hT:Axm s l) (hs:∀ c ∈ s.c,0≤(D6 s c).lo∧(D6 s c).hi≤2000):Bf Try.prog 18 [avO s,isl l] (.tup [isl (Rz s l s.c.length),i64 0]):=by
  have h6:=hS.n
  have hTl:=hT.len
  refine Au (v:=[52,64]) (q:=[]) (N:=45) (rs:=[.tmp 4,.tmp 5]) Try.func18 rfl rfl rfl rfl rfl ?_
  refine Af fun K1 hK1=>?_
  simp (disch:=omega) only [amL,sA,sB,↓reduceIte]
  refine hK1 _ ?_
  refine Af fun K2 hK2=>?_
  simp (disch:=omega) only [amL,amT,sA,sB,sF,sG,↓reduceIte]
  refine Be [(1,isl l),(2,.ptr 2 0),(4,Zu),(5,i64 0)] (by decide) (Yg hS (bd:=45)) (Ha rfl) (by decide) (fun res os2 hR hcl2 hlv2=>?_)
  obtain ⟨rfl,rfl⟩:=hR
  simp (disch:=omega) only [amL,sA,sB,sF,↓reduceIte,reduceCtorEq]
  refine hK2 _ ?_
  refine Aa fun K3 hK3=>?_
  refine Ai ?_
  refine Af fun K4 hK4=>?_
  simp (disch:=omega) only [amL,amT,sA,↓reduceIte]
  refine hK4 _ ?_
  refine Ag rfl (fun h=>MT.x ?_) (fun h=>ME.x ?_)
  all_goals
   first
   |refine MT.mk ?_
    first
    |exact Bool.noConfusion h
    |skip
     try simp only [nrm] at h
     refine Af fun K5 hK5=>?_
     simp (disch:=omega) only [Ad,C5,B1,E8,amL,amT,sA,sB,sC,sD,sE,sF,sG,sH,sI,sJ,sK,sL,sM,sN,sO,↓reduceIte,reduceCtorEq]
     refine hK5 _ ?_
     refine Ae ?_
     try simp (disch:=omega) only [Ad,C5,B1,E8,amL,amT,sA,sB,sC,sD,sE,sF,sG,sH,sI,sJ,sK,sL,sM,sN,sO,↓reduceIte,reduceCtorEq]
     all_goals first | ((obtain rfl:k=s.c.length:=by omega); rw [List.take_of_length_le (by simp [E8])]; done) | rfl | trace_state
   |refine ME.mk ?_
    first
    |exact Bool.noConfusion h
    |skip
     try simp only [nrm] at h
     refine Af fun K6 hK6=>?_
     simp (disch:=omega) only [amL,sA,sF,sG,↓reduceIte]
     repeat' first | (refine Nh (bd:=90) (by decide) (Ahv (l:=l) (s:=s) (nw:=62) (bd:=90) h6 hT rfl) (Ha rfl) (by decide) rfl ?_ ; simp (disch:=omega) only [amL,sA,↓reduceIte])
     refine hK6 _ ?_
     refine Ag rfl (fun h=>MT.x ?_) (fun h=>ME.x ?_)
     all_goals
      first
      |refine MT.mk ?_
       first
       |exact Bool.noConfusion h
       |skip
        try simp only [nrm] at h
        refine Af fun K7 hK7=>?_
        simp (disch:=omega) only [Ad,C5,B1,E8,amL,amT,sA,sB,sC,sD,sE,sF,sG,sH,sI,sJ,sK,sL,sM,sN,sO,↓reduceIte,reduceCtorEq]
        refine hK7 _ ?_
        refine Ae ?_
        try simp (disch:=omega) only [Ad,C5,B1,E8,amL,amT,sA,sB,sC,sD,sE,sF,sG,sH,sI,sJ,sK,sL,sM,sN,sO,↓reduceIte,reduceCtorEq]
        all_goals first | ((obtain rfl:k=s.c.length:=by omega); rw [List.take_of_length_le (by simp [E8])]; done) | rfl | trace_state
      |refine ME.mk ?_
       first
       |exact Bool.noConfusion h
       |skip
        try simp only [] at h
        refine Aj ?_
        refine hK3 _ ?_
  all_goals
   skip
   refine Af fun K8 hK8=>?_
   simp (disch:=omega) only [amL,sA]
   refine hK8 _ ?_
   refine Aa fun K9 hK9=>?_
   refine Af fun K10 hK10=>?_
   simp (disch:=omega) only [amL,amT,sA,sF,↓reduceIte,reduceCtorEq]
   refine hK10 _ ?_
   refine Ai ?_
   refine Acz 42 1 8 (by decide) rfl rfl ?_
   refine A7 (α:=Nat) (fun k=>⟨T [(1,isl l),(5,i64 0),(8,.own 42 k),(26,.p (slC s.c)),(27,i64 s.c.length),(28,i64 (k:Int))],O [(42,.arr 1 ((Rz s l k).map V3))]⟩) (fun k=>s.c.length - k) (fun k=>k≤s.c.length) 0 ?_ ?_ (fun k hx11 K11 hK11=>?_)
   · exact Nat.zero_le _
   · refine B7 ?_ ?_ ?_ ?_ <;> (try simp (disch:=omega) only [amL,sF,↓reduceIte]); all_goals first | rfl | trace_state
   have hk:=hx11
   refine Af fun K12 hK12=>?_
   simp (disch:=omega) only [amL,amT,sA,sF,↓reduceIte]
   refine hK12 _ ?_
   refine Aa fun K13 hK13=>?_
   refine Ag rfl (fun h=>MT.x ?_) (fun h=>ME.x ?_)
   all_goals
    first
    |refine MT.mk ?_
     first
     |exact Bool.noConfusion h
     |skip
      try simp only [nrm] at h
      refine Aj ?_
      refine hK13 _ ?_
    |refine ME.mk ?_
     first
     |exact Bool.noConfusion h
     |skip
      try simp only [nrm] at h
      refine Bg ?_
      refine hK9 _ ?_
      refine Af fun K14 hK14=>?_
      simp (disch:=omega) only [amL,sA,sF,↓reduceIte]
      refine hK14 _ ?_
      refine Ae ?_
      try simp (disch:=omega) only [E8,amL,sF,↓reduceIte]
      all_goals first | ((obtain rfl:k=s.c.length:=by omega); rw [List.take_of_length_le (by simp [E8])]; done) | rfl | trace_state
   all_goals
    skip
    refine Aa fun K15 hK15=>?_
    refine Ai ?_
    refine Af fun K16 hK16=>?_
    have hk2:k < s.c.length:=by omega
    have hmk:=Ee (l:=s.c) default hk2
    have hck:=List.all_eq_true.1 hS.c _ hmk
    have hsk:=hs _ hmk
    have hta:=hT.pt k hk2
    simp only [okC,inB,Bool.and_eq_true,decide_eq_true_eq] at hck
    simp (disch:=omega) only [C5,amL,amT,sA,sB,sF,↓reduceIte]
    refine hK16 _ ?_
    refine Bk (by kernel_rfl) (by kernel_rfl) ?_
    simp (disch:=omega) only [B1,amL,amT,sA,sF,sG,↓reduceIte,reduceCtorEq]
    repeat' first | (refine Am (by kernel_rfl) rfl (Uz _ _ (by omega) (by omega)) (by first | exact .inl rfl | exact .inr (.inl rfl)) ?_ ; simp (disch:=omega) only [E8,amL,amT,sA,sE,sF,↓reduceIte,reduceCtorEq])
    refine hK15 _ ?_
    refine Ac ?_
    simp (disch:=omega) only [amL,amT,sA,sF,↓reduceIte]
    refine hK11 (k+1) _ ?_ ?_ (B7 ?_ ?_ ?_ ?_)
    all_goals (try simp (disch:=omega) only [amL,sF,↓reduceIte])
    all_goals first | omega | exact congrArg (AO.arr 1) n42 | trace_state
def K0 (s:Sto) (lv:List Int):Nat→Int
  | 0=>0
  | k+1=>K0 s lv k+owX s ((s.c.getD k default).g * lv.getD k 0 / 100)
theorem Abd (s:Sto) (lv:List Int) (k:Nat):K0 s lv (k+1)=K0 s lv k+owX s ((s.c.getD k default).g * lv.getD k 0 / 100):=rfl
theorem Amy {lv:List Int} {k:Nat} (h:k < lv.length):(lv.map fun n=>i64 n).drop k=i64 (lv.getD k 0) :: (lv.map fun n=>i64 n).drop (k+1):=by
  rw [List.drop_eq_getElem_cons (by rw [List.length_map]; exact h),List.getElem_map,List.getElem_eq_getD 0]
theorem Aku {s:Sto} {n:Int} (hn:0≤n∧n≤2000) (hr:0≤s.r∧s.r≤200):0≤owX s n∧owX s n≤50000:=by
  have hm:=Ep hn.1 hn.2 hr.1 hr.2
  unfold owX; omega
theorem Ad2 {g n:Int} (hg:0≤g∧g≤99) (hn:0≤n∧n≤2000):0≤g * n / 100∧g * n / 100≤2000:=by
  have hm:=Ep hg.1 hg.2 hn.1 hn.2
  omega
theorem Ya {s:Sto} {lv:List Int} (hr:0≤s.r∧s.r≤200) (hg:∀ k,k < s.c.length→0≤(s.c.getD k default).g∧(s.c.getD k default).g≤99) (hl:∀ k,0≤lv.getD k 0∧lv.getD k 0≤2000):∀ k,k≤s.c.length→0≤K0 s lv k∧K0 s lv k≤50000 * (k:Int)
  | 0,_=>by simp [K0]
  | k+1,h=>by
    have ih:=Ya hr hg hl k (by omega)
    have h1:=Aku (Ad2 (hg k (by omega)) (hl k)) hr
    rw [Abd]; omega
theorem Adm {s:Sto} {kn:AV} {lv lo hi:List Int} {nw:Nat} {os:Nat→Option AO} {bd:Nat} (h6:s.c.length≤6) (hlv:lv.length=6) (hr:0≤s.r∧s.r≤200) (hg:∀ k,k < s.c.length→0≤(s.c.getD k default).g∧(s.c.getD k default).g≤99) (hl:∀ k,0≤lv.getD k 0∧lv.getD k 0≤2000) (hw:os nw=some (.cells (Fw s kn lo hi))) :
    Bm Try.prog bd (.fn (.func 66) [] []) [.ptr nw 0,.agg (lv.map fun n=>i64 n)] os fun res os'=>res=i64 (K0 s lv s.c.length)∧os'=os:=by
  refine Bn (v:=[]) (q:=[]) (N:=33) (rs:=[.tmp 4]) Try.func66 rfl (by kernel_rfl) rfl rfl (fun hcl hfree=>?_)
  have hfr0:∀ k,os (bd+k)=none:=fun k=>hfree _ (by omega)
  have hb:=Al hfree hw
  refine Af fun K1 hK1=>?_
  simp (disch:=omega) only [hfr0,amL,sA,sB,↓reduceIte,reduceCtorEq]
  refine hK1 _ ?_
  refine Aa fun K2 hK2=>?_
  refine Af fun K3 hK3=>?_
  simp (disch:=omega) only [hw,Ad,amL,amT,sA,↓reduceIte,reduceCtorEq]
  refine hK3 _ ?_
  refine Ai ?_
  skip
  refine A7 (α:=Nat) (fun k=>⟨T [(0,.ptr nw 0),(3,.ptr (bd+3) 0),(4,i64 (K0 s lv k)),(11,.p (slC s.c)),(12,i64 s.c.length),(13,i64 (k:Int))],upd os (bd+3) (some (.cells (lv.map fun n=>i64 n)))⟩) (fun k=>s.c.length - k) (fun k=>k≤s.c.length) 0 ?_ ?_ (fun k hx4 K4 hK4=>?_)
  · exact Nat.zero_le _
  · refine Dz ?_ ?_ ?_ ?_ <;> (try simp (disch:=omega) only [hw,Ad,amL,sF,↓reduceIte,reduceCtorEq]); all_goals first | exact Sub.refl _ | exact Ex hcl (by simp [AV.isP]) | rfl | trace_state
  have hk:=hx4
  refine Af fun K5 hK5=>?_
  simp (disch:=omega) only [amL,amT,sA,sF,↓reduceIte,reduceCtorEq]
  refine hK5 _ ?_
  refine Aa fun K6 hK6=>?_
  refine Ag rfl (fun h=>MT.x ?_) (fun h=>ME.x ?_)
  all_goals
   first
   |refine MT.mk ?_
    first
    |exact Bool.noConfusion h
    |skip
     try simp only [nrm] at h
     refine Aj ?_
     refine hK6 _ ?_
   |refine ME.mk ?_
    first
    |exact Bool.noConfusion h
    |skip
     try simp only [nrm] at h
     refine Bg ?_
     refine hK2 _ ?_
     refine Af fun K7 hK7=>?_
     simp (disch:=omega) only [amL,sA,sF,↓reduceIte,reduceCtorEq]
     refine hK7 _ ?_
     refine Ae ?_
     try simp (disch:=omega) only [amL]
     all_goals first
       | ((obtain rfl:k=s.c.length:=by omega); refine Az (res:=i64 _) os rfl (by first | ((repeat' first | exact Sub.refl _ | refine Sub.skip (by first | exact hfr0 _ | (simp (disch:=omega) only [Ad]; exact hfr0 _)) ?_ | refine Sub.both ?_); done) | fail) hcl (AV.lives_p _ _) ⟨rfl,rfl⟩; done)
       | trace_state
  all_goals
   skip
   refine Aa fun K8 hK8=>?_
   refine Ai ?_
   refine Af fun K9 hK9=>?_
   simp (disch:=omega) only [hfr0,Ad,C5,amL,amT,sA,sB,sF,↓reduceIte,reduceCtorEq]
   refine hK9 _ ?_
   refine Bk (by kernel_rfl) (by kernel_rfl) ?_
   have hk2:k < s.c.length:=by omega
   have hten:=Ad2 (hg k hk2) (hl k)
   have hdr:=Amy (lv:=lv) (k:=k) (by omega)
   have hdb:=Ya hr hg hl k (by omega)
   have how:=Aku hten hr
   simp (disch:=omega) only [hdr,hw,Ad,amL,amT,sA,sE,sF,sH,↓reduceIte,reduceCtorEq]
   repeat' first | (refine Am (by kernel_rfl) rfl (Uz _ _ (hg k (by omega)) (hl k)) (by first | exact .inl rfl | exact .inr (.inl rfl)) ?_ ; simp (disch:=omega) only [amL,sF,↓reduceIte]) | (refine Am (by kernel_rfl) rfl (Amb s _ hten hr) (by first | exact .inl rfl | exact .inr (.inl rfl)) ?_ ; simp (disch:=omega) only [amL,amT,sA,sF,↓reduceIte])
   refine hK8 _ ?_
   refine Ac ?_
   simp (disch:=omega) only [amL,amT,sA,sF,↓reduceIte,reduceCtorEq]
   refine hK4 (k+1) _ ?_ ?_ (Dz ?_ ?_ ?_ ?_)
   all_goals (try simp (disch:=omega) only [hw,Ad,amL,sF,↓reduceIte,reduceCtorEq])
   all_goals first | omega | rfl | exact Ex hcl (by simp [AV.isP]) | (refine fun z=>?_ ; by_cases e:z=bd+6 ; (left; subst e; simp (disch:=omega) only [Ad]; exact hfr0 6) ; (right; simp (disch:=omega) only [Ad])) | trace_state
theorem Aoc {s:Sto} (_:s.c.length≤6) (hs:∀ c ∈ s.c,(0≤(D6 s c).lo∧(D6 s c).lo≤2000)∧0≤(D6 s c).hi∧(D6 s c).hi≤2000) (k:Nat):0≤(loL s s.c.length).getD k 0∧(loL s s.c.length).getD k 0≤2000:=by
  have h:∀ x ∈ loL s s.c.length,0≤x∧x≤2000:=fun x hx=>by
    unfold loL at hx
    rcases List.mem_append.1 hx with hx | hx
    · obtain ⟨r,hr,rfl⟩:=List.mem_map.1 hx
      obtain ⟨c,hc,rfl⟩:=List.mem_map.1 hr
      exact (hs c (List.mem_of_mem_take hc)).1
    · have:=List.eq_of_mem_replicate hx; omega
  by_cases hk:k < (loL s s.c.length).length
  · exact h _ (Ee 0 hk)
  · rw [List.getD_eq_getElem?_getD,List.getElem?_eq_none (by omega)]; simp
theorem An9 {s:Sto} (_:s.c.length≤6) (hs:∀ c ∈ s.c,(0≤(D6 s c).lo∧(D6 s c).lo≤2000)∧0≤(D6 s c).hi∧(D6 s c).hi≤2000) (k:Nat):0≤(hiL s s.c.length).getD k 0∧(hiL s s.c.length).getD k 0≤2000:=by
  have h:∀ x ∈ hiL s s.c.length,0≤x∧x≤2000:=fun x hx=>by
    unfold hiL at hx
    rcases List.mem_append.1 hx with hx | hx
    · obtain ⟨r,hr,rfl⟩:=List.mem_map.1 hx
      obtain ⟨c,hc,rfl⟩:=List.mem_map.1 hr
      exact (hs c (List.mem_of_mem_take hc)).2
    · have:=List.eq_of_mem_replicate hx; omega
  by_cases hk:k < (hiL s s.c.length).length
  · exact h _ (Ee 0 hk)
  · rw [List.getD_eq_getElem?_getD,List.getElem?_eq_none (by omega)]; simp
theorem Aqx:Nf Try.prog 151 6:=Nn (by kernel_rfl)
theorem Ni:∀ l:List Int,Ck (l.map fun n=>i64 n)=some l
  | []=>rfl
  | x :: l=>by
    show Ck (i64 x :: l.map fun n=>i64 n)=_
    rw [R7,Ni l]; rfl
theorem Xf {l:List Int} (h:∀ k,0≤l.getD k 0∧l.getD k 0≤2000):l.all inR=true:=by
  rw [List.all_eq_true]
  intro x hx
  obtain ⟨k,hk⟩:=List.mem_iff_getElem?.1 hx
  have:=h k
  rw [List.getD_eq_getElem?_getD,hk] at this
  simp only [Option.getD_some] at this
  simp only [inR,Bool.and_eq_true,decide_eq_true_eq]; omega
theorem Agg {s:Sto} (hS:Ku s) (hs:∀ c ∈ s.c,(0≤(D6 s c).lo∧(D6 s c).lo≤2000)∧0≤(D6 s c).hi∧(D6 s c).hi≤2000):Bf Try.prog 19 [avO s] (.tup [avR ⟨K0 s (loL s s.c.length) s.c.length,K0 s (hiL s s.c.length) s.c.length⟩,i64 0]):=by
  have h6:=hS.n
  have hrr:=hS.r
  simp only [inB,Bool.and_eq_true,decide_eq_true_eq] at hrr
  have hg:∀ k,k < s.c.length→0≤(s.c.getD k default).g∧(s.c.getD k default).g≤99:=fun k hk=>by
    have:=List.all_eq_true.1 hS.c _ (Ee default hk)
    simp only [okC,inB,Bool.and_eq_true,decide_eq_true_eq] at this
    omega
  have hlo:=S5 (s:=s) (Nat.le_refl _) h6
  have hhi:=Yv (s:=s) (Nat.le_refl _) h6
  have hla:=Aoc h6 hs
  have hha:=An9 h6 hs
  have h62:((loL s s.c.length).map (fun n=>i64 n)++(hiL s s.c.length).map (fun n=>i64 n)).take 6=(loL s s.c.length).map fun n=>i64 n:=List.take_left' (by rw [List.length_map,hlo])
  have h63:((loL s s.c.length).map (fun n=>i64 n)++(hiL s s.c.length).map (fun n=>i64 n)).drop 6=(hiL s s.c.length).map fun n=>i64 n:=List.drop_left' (by rw [List.length_map,hlo])
  have h65:((hiL s s.c.length).map (fun n=>i64 n)).take 6=(hiL s s.c.length).map fun n=>i64 n:=List.take_of_length_le (by rw [List.length_map,hhi]; exact Nat.le_refl _)
  have heq:Gd Try.prog .eql 151 (some (loL s s.c.length)) (some (hiL s s.c.length))=some (.pure (bl (decide (loL s s.c.length=hiL s s.c.length)))):=by
    rw [Ht (by rw [hlo]; exact Aqx) (by rw [hlo,hhi]) (Xf hla) (Xf hha)]
  refine Au (v:=[52,66]) (q:=[]) (N:=42) (rs:=[.cell 2 52,.tmp 3]) Try.func19 rfl rfl rfl rfl rfl ?_
  refine Af fun K1 hK1=>?_
  simp (disch:=omega) only [amL,amT,sA,sB,sF,↓reduceIte]
  refine hK1 _ ?_
  refine Af fun K2 hK2=>?_
  simp (disch:=omega) only [amL,amT,sA,sB,sF,sG,↓reduceIte]
  refine Be [(1,.ptr 1 0),(2,.ptr 2 0),(3,i64 0)] (by decide) (Yg hS (bd:=42)) (Ha rfl) (by decide) (fun res os2 hR hcl2 hlv2=>?_)
  obtain ⟨rfl,rfl⟩:=hR
  simp (disch:=omega) only [amL,sA,sB,sF,↓reduceIte]
  refine hK2 _ ?_
  refine Aa fun K3 hK3=>?_
  refine Af fun K4 hK4=>?_
  simp (disch:=omega) only [amL,amT,sA,↓reduceIte]
  refine hK4 _ ?_
  refine Ag rfl (fun h=>MT.x ?_) (fun h=>ME.x ?_)
  all_goals
   first
   |refine MT.mk ?_
    first
    |exact Bool.noConfusion h
    |skip
     try simp only [nrm] at h
     refine Af fun K5 hK5=>?_
     simp (disch:=omega) only [Ad,Ni,List.length_append,hlo,hhi,h62,h63,h65,heq,amL,amT,sA,sB,sC,sD,sE,sF,sG,sH,sI,sJ,sK,sL,sM,sN,sO,↓reduceIte,reduceCtorEq]
     refine hK5 _ ?_
     refine Ae ?_
     try simp (disch:=omega) only [Ad,Ni,List.length_append,hlo,hhi,h62,h63,h65,heq,amL,amT,sA,sB,sC,sD,sE,sF,sG,sH,sI,sJ,sK,sL,sM,sN,sO,↓reduceIte,reduceCtorEq]
     all_goals first | rfl | (rw [← h]; done) | (rw [h]; done) | trace_state
   |refine ME.mk ?_
    first
    |exact Bool.noConfusion h
    |skip
     try simp only [nrm] at h
     refine Aj ?_
     refine hK3 _ ?_
  all_goals
   skip
   refine Af fun K6 hK6=>?_
   simp (disch:=omega) only [List.length_append,hlo,hhi,h62,amL,amT,sA,sB,sE,sF,sG,↓reduceIte,reduceCtorEq]
   repeat' first | (refine Nh (bd:=90) (by decide) (Adm (s:=s) (lv:=loL s s.c.length) (nw:=59) (bd:=90) h6 hlo hrr hg hla rfl) (Ha rfl) (by decide) rfl ?_ ; simp (disch:=omega) only [amL,sA,↓reduceIte])
   refine hK6 _ ?_
   refine Aa fun K7 hK7=>?_
   refine Aa fun K8 hK8=>?_
   refine Bk (by kernel_rfl) (by kernel_rfl) ?_
   simp (disch:=omega) only [Ni,List.length_append,hlo,hhi,h62,h63,h65,heq,amL,amT,sA,sB,sE,sF,↓reduceIte,reduceCtorEq]
   refine hK8 _ ?_
   refine Ag rfl (fun h=>MT.x ?_) (fun h=>ME.x ?_)
   all_goals
    first
    |refine MT.mk ?_
     first
     |exact Bool.noConfusion h
     |skip
      try simp only [nrm] at h
      refine Af fun K9 hK9=>?_
      simp (disch:=omega) only [amL,amT,sA,sB,sE,sF,↓reduceIte]
      refine hK9 _ ?_
      refine Ae ?_
      try simp (disch:=omega) only [amL,amT,sB,sF,↓reduceIte]
      all_goals first | rfl | (rw [← h]; done) | (rw [h]; done) | trace_state
    |refine ME.mk ?_
     first
     |exact Bool.noConfusion h
     |skip
      try simp only [nrm] at h
      refine Aj ?_
      refine hK7 _ ?_
   all_goals
    skip
    refine Af fun K10 hK10=>?_
    simp (disch:=omega) only [hhi,h63,h65,amL,amT,sA,sF,sG,↓reduceIte,reduceCtorEq]
    repeat' first | (refine Nh (bd:=90) (by decide) (Adm (s:=s) (lv:=hiL s s.c.length) (nw:=59) (bd:=90) h6 hhi hrr hg hha rfl) (Ha rfl) (by decide) rfl ?_ ; simp (disch:=omega) only [amL,amT,sA,sB,sE,sF,↓reduceIte])
    refine hK10 _ ?_
    refine Ae ?_
    try simp (disch:=omega) only [amL,amT,sB,sF,↓reduceIte]
    all_goals first | rfl | (rw [← h]; done) | (rw [h]; done) | trace_state
end AM.Try
end
/- Go's slices.IndexFunc, slices.ContainsFunc and the program's all, at four types: whatever function tests. -/
section
namespace AM.Dty
open Go AM AM.Duty AM.Try Go.Proofs
open Nat renaming reduceLT→sA,reduceAdd→sB,reduceMul→sC,reduceSub→sD,reduceLeDiff→sE,reduceEqDiff→sF,reduceBEq→sG
open Int renaming reduceAdd→sH,reduceSub→sI,reduceMul→sJ,reduceLT→sK,reduceLE→sL,reduceNeg→sM,reduceToNat→sN,reduceEq→sO
set_option maxHeartbeats 4000000
def Dk {σ α:Type} (step:σ→α→σ × Bool):σ→List α→Nat→σ × Int
  | s,[],_=>(s,-1)
  | s,x :: l,k=>if (step s x).2=true then ((step s x).1,k) else Dk step (step s x).1 l (k+1)
theorem U9 {α:Type} {l:List α} {k:Nat} (d:α) (h:k < l.length):l.drop k=l.getD k d :: l.drop (k+1):=by
  rw [List.drop_eq_getElem_cons h]; simp [List.getD,h]
theorem Kl {σ α:Type} {step:σ→α→σ × Bool} {l:List α} {k:Nat} (d:α) {s:σ} (h:k < l.length):Dk step s (l.drop k) k=if (step s (l.getD k d)).2=true then ((step s (l.getD k d)).1,(k:Int)) else Dk step (step s (l.getD k d)).1 (l.drop (k+1)) (k+1):=by
  rw [U9 d h]; rfl
theorem Kx {σ α:Type} {step:σ→α→σ × Bool} {l:List α} {k:Nat} (d:α) {s:σ} {R:σ × Int} (h:k < l.length) (hb:(step s (l.getD k d)).2=false) (hr:Dk step s (l.drop k) k=R):Dk step (step s (l.getD k d)).1 (l.drop (k+1)) (k+1)=R:=by
  rw [← hr,Kl d h,if_neg (by rw [hb]; simp)]
theorem D9 {σ α:Type} {step:σ→α→σ × Bool} {l:List α} {k:Nat} (d:α) {s:σ} {R:σ × Int} (h:k < l.length) (hb:(step s (l.getD k d)).2=true) (hr:Dk step s (l.drop k) k=R):R=((step s (l.getD k d)).1,(k:Int)):=by
  rw [← hr,Kl d h,if_pos hb]
theorem E9 {σ α:Type} {step:σ→α→σ × Bool} {l:List α} {k:Nat} {s:σ} {R:σ × Int} (h:l.length≤k) (hr:Dk step s (l.drop k) k=R):R=(s,-1):=by
  rw [← hr,List.drop_of_length_le h]; rfl
def Ca {σ α:Type} (step:σ→α→σ × Bool):σ→List α→σ × Bool
  | s,[]=>(s,true)
  | s,x :: l=>if (step s x).2=true then Ca step (step s x).1 l else ((step s x).1,false)
theorem H3 {σ α:Type} {step:σ→α→σ × Bool}:∀ (l:List α) (s:σ) (k:Nat),(Dk (fun s x=>((step s x).1,!(step s x).2)) s l k).1=(Ca step s l).1∧(!decide (0≤(Dk (fun s x=>((step s x).1,!(step s x).2)) s l k).2))=(Ca step s l).2
  | [],s,k=>⟨rfl,rfl⟩
  | x :: l,s,k=>by
    simp only [Dk,Ca]
    cases h:(step s x).2 with
    | false=>simp
    | true=>simpa using H3 l (step s x).1 (k+1)
theorem Ee {α:Type} {l:List α} {k:Nat} (d:α) (h:k < l.length):l.getD k d ∈ l:=by
  rw [← List.getElem_eq_getD (h:=h)]; exact List.getElem_mem _
structure Cv (fv:AV) (F:Nat→Prop) {σ α:Type} (arg:α→AV) (l:List α) (I:σ→(Nat→Option AO)→Prop) (step:σ→α→σ × Bool):Prop where
  live:∀ s os,I s os→fv.lives os
  stable:∀ s os os',I s os→(∀ n,F n→os' n=os n)→I s os'
  foot:∀ s os n,I s os→F n→∃ o,os n=some o∧∀ m,o.clean m=false→F m
  call:∀ s x os bd,x ∈ l→I s os→(Hp os).closed→Bm Try.prog bd fv [arg x] os fun res os'=>res=bl (step s x).2∧I (step s x).1 os'∧∀ n,¬ F n→os' n=os n
def Ap (bd:Nat) (os:Nat→Option AO):Nat→Option AO:=fun n=>if n < bd then os n else none
theorem Bj {bd n:Nat} {os:Nat→Option AO} (h:n < bd):Ap bd os n=os n:=if_pos h
theorem De {bd n:Nat} {os:Nat→Option AO} (h:bd≤n):Ap bd os n=none:=if_neg (by omega)
theorem Bh (bd:Nat) (os:Nat→Option AO):Sub (Ap bd os) os:=fun n=>by
  by_cases h:n < bd
  · exact .inr (Bj h)
  · exact .inl (De (by omega))
theorem Al {bd n:Nat} {os:Nat→Option AO} (hf:∀ n,bd≤n→os n=none) {o:AO} (h:os n=some o):n < bd:=by
  cases Nat.lt_or_ge n bd with
  | inl h=>exact h
  | inr h'=>rw [hf n h'] at h; cases h
theorem Cv.drop {fv:AV} {F:Nat→Prop} {σ α:Type} {arg:α→AV} {l:List α} {I:σ→(Nat→Option AO)→Prop} {step:σ→α→σ × Bool} (hT:Cv fv F arg l I step) {os os2:Nat→Option AO} {bd:Nat} (hcl:(Hp os).closed) (hfree:∀ n,bd≤n→os n=none) {s s':σ} (hs:I s os) (hI:I s' os2) (hfr:∀ n,n < bd→¬ F n→os2 n=os n) :
    (Hp (Ap bd os2)).closed∧I s' (Ap bd os2)∧∀ n,¬ F n→Ap bd os2 n=os n:=by
  have hF:∀ n,F n→n < bd:=fun n hn=>by obtain ⟨o,h,_⟩:=hT.foot s os n hs hn; exact Al hfree h
  have hfr2:∀ n,¬ F n→Ap bd os2 n=os n:=fun n hn=>by
    by_cases h:n < bd
    · rw [Bj h]; exact hfr n h hn
    · rw [De (by omega),hfree n (by omega)]
  refine ⟨⟨fun _=>AV.lives_undef _,fun n o hn=>?_⟩,hT.stable s' os2 _ hI (fun n hn=>Bj (hF n hn)),hfr2⟩
  have hn:Ap bd os2 n=some o:=hn
  by_cases hFn:F n
  · obtain ⟨o',h1,h2⟩:=hT.foot s' os2 n hI hFn
    rw [Bj (hF n hFn),h1] at hn
    cases hn
    intro m hm
    obtain ⟨o'',h3,_⟩:=hT.foot s' os2 m hI (h2 m hm)
    show (Ap bd os2 m).isSome=true
    rw [Bj (hF m (h2 m hm)),h3]; rfl
  · rw [hfr2 n hFn] at hn
    intro m hm
    have h3:=hcl.2 n o hn m hm
    show (Ap bd os2 m).isSome=true
    by_cases hFm:F m
    · obtain ⟨o',h1,_⟩:=hT.foot s' os2 m hI hFm
      rw [Bj (hF m hFm),h1]; rfl
    · rw [hfr2 m hFm]; exact h3
abbrev Hh (n:Int):List PV:=[iv n]
theorem C8 {l:List Int} {k:Nat} (h:k < l.length):(l.map Hh).getD k []=Hh (l.getD k 0):=E6 _ _ _ h
theorem Azi {σ:Type} {fv:AV} {F:Nat→Prop} {l:List Int} {I:σ→(Nat→Option AO)→Prop} {step:σ→Int→σ × Bool} (hT:Cv fv F i64 l I step) {nb:Nat} (hnb:¬ F nb) {s:σ} {x:Int} {os:Nat→Option AO} {bd:Nat} (hx:x ∈ l) (hI:I s os) (hnb1:os nb=some (.cells [fv])) :
    Bm Try.prog bd (.fn (.func 172) [] [.ptr nb 0]) [i64 x] os fun res os'=>res=bl (!(step s x).2)∧(I (step s x).1 os'∧os' nb=some (.cells [fv]))∧∀ n,¬ (F n∨n=nb)→os' n=os n:=by
  refine Bn (v:=[]) (q:=[]) (N:=8) (rs:=[.tmp 3]) Try.func172 rfl (by kernel_rfl) rfl rfl (fun hcl hfree=>?_)
  have hlt:=Al hfree hnb1
  have hfr0:∀ k,os (bd+k)=none:=fun k=>hfree _ (by omega)
  have hlv:=hT.live _ _ hI
  have hcl0:=hcl
  have hI0:=hI
  have hfr8:∀ n,bd+8≤n→os n=none:=fun n hn=>hfree n (by omega)
  refine Aa fun K1 hK1=>?_
  refine Ac ?_
  simp (disch:=omega) only [amL,sA,sB]
  refine hK1 _ ?_
  refine Aa fun K2 hK2=>?_
  refine Ac ?_
  simp (disch:=omega) only [hnb1,amL,amT,sA,sF,↓reduceIte,reduceCtorEq]
  have hvc:=hT.call s x _ (bd+8) hx hI0 hcl0
  refine Be [] (by decide) hvc hfr8 (Nat.le_add_right bd 8) (fun res os2 hR hcl2 hlv2=>?_)
  obtain ⟨rfl,hI2,hfr2⟩:=hR
  simp (disch:=omega) only [amL,sA,↓reduceIte]
  refine hK2 _ ?_
  refine Ae ?_
  try simp (disch:=omega) only [amL]
  obtain ⟨g1,g2,g3⟩:=hT.drop hcl hfree hI hI2 (fun n hn hF=>by first | exact hfr2 n hF | (rw [hfr2 n hF,Ad (by omega)]))
  refine Az (res:=bl _) (Ap bd os2) (by simp (disch:=omega) only [amL,↓reduceIte]; try rfl) (Bh _ _) g1 (AV.lives_p _ _) ⟨rfl,⟨g2,?_⟩,fun n hn=>g3 n (fun h=>hn (.inl h))⟩
  rw [g3 nb hnb]; exact hnb1
theorem Bb1 {σ:Type} {fv:AV} {F:Nat→Prop} {l:List Int} {I:σ→(Nat→Option AO)→Prop} {step:σ→Int→σ × Bool} (hT:Cv fv F i64 l I step) {nb:Nat} (hnb:¬ F nb) (hfv:∀ m,fv.clean m=false→F m) :
    Cv (.fn (.func 172) [] [.ptr nb 0]) (fun n=>F n∨n=nb) i64 l (fun s os=>I s os∧os nb=some (.cells [fv])) (fun s x=>((step s x).1,!(step s x).2)):=by
  refine ⟨fun s os hI=>?_,fun s os os' hI h=>⟨hT.stable s os os' hI.1 (fun n hn=>h n (.inl hn)),(h nb (.inr rfl)).trans hI.2⟩,fun s os n hI hn=>?_,fun s x os bd hx hI _=>Azi hT hnb hx hI.1 hI.2⟩
  · rw [Cl,A8,Ax,A8,Bz,hI.2]; exact ⟨trivial,rfl,trivial⟩
  · rcases hn with hn | rfl
    · obtain ⟨o,h1,h2⟩:=hT.foot s os n hI.1 hn
      exact ⟨o,h1,fun m hm=>.inl (h2 m hm)⟩
    · refine ⟨_,hI.2,fun m hm=>.inl (hfv m ?_)⟩
      simpa [AO.clean,AV.clean.cleanL] using hm
theorem Aza {σ:Type} {fv:AV} {F:Nat→Prop} {l:List Fi} {I:σ→(Nat→Option AO)→Prop} {step:σ→Fi→σ × Bool} (hl:l.length < 1000000) (hT:Cv fv F (fun x=>.agg [i64 x.day,i64 x.pence]) l I step) {s:σ} {os:Nat→Option AO} {bd:Nat} (hI:I s os) :
    Bm Try.prog bd (.fn (.func 215) [] []) [.p (.sl (l.map F2)),fv] os fun res os'=>res=i64 (Dk step s l 0).2∧I (Dk step s l 0).1 os'∧∀ n,¬ F n→os' n=os n:=by
  refine Bn (v:=[]) (q:=[]) (N:=19) (rs:=[.tmp 4]) Try.func215 rfl (by kernel_rfl) rfl rfl (fun hcl hfree=>?_)
  have hfreeI:∀ (s1:σ) os1,I s1 os1→(∀ n,¬ F n→os1 n=os n)→∀ n,bd≤n→os1 n=none:=fun s1 os1 h1 h2 n hn=>by
    by_cases hFn:F n
    · obtain ⟨o,h3,_⟩:=hT.foot s os n hI hFn
      have:=Al hfree h3; omega
    · rw [h2 n hFn]; exact hfree n hn
  refine Aa fun K1 hK1=>?_
  refine Ac ?_
  simp (disch:=omega) only [amL,sA,sB]
  refine hK1 _ ?_
  refine Aa fun K2 hK2=>?_
  refine Aa fun K3 hK3=>?_
  refine Ac ?_
  simp (disch:=omega) only [amL,amT,sA,↓reduceIte,reduceCtorEq]
  refine hK3 _ ?_
  refine Ai ?_
  skip
  refine A7 (α:=Nat × σ × (Nat→Option AO)) (fun x=>⟨T [(0,.p (.sl (l.map F2))),(1,fv),(8,i64 x.1),(7,i64 l.length)],x.2.2⟩) (fun x=>l.length - x.1) (fun x=>x.1≤l.length∧I x.2.1 x.2.2∧(Hp x.2.2).closed∧(∀ n,¬ F n→x.2.2 n=os n)∧Dk step x.2.1 (l.drop x.1) x.1=Dk step s l 0) (0,s,os) ?_ ?_ (fun x hx4 K4 hK4=>?_)
  · exact ⟨by simp,hI,hcl,fun _ _=>rfl,by simp⟩
  · refine Dz ?_ ?_ ?_ ?_ <;> (try simp (disch:=omega) only [amL,sF,↓reduceIte,reduceCtorEq]); all_goals first | exact hcl | exact Sub.refl _ | exact hT.live _ _ hI
  obtain ⟨k,s1,os1⟩:=x; dsimp only at hx4 ⊢; obtain ⟨hk,hI1,hcl1,hfr1,hsc⟩:=hx4
  refine Aa fun K5 hK5=>?_
  refine Ac ?_
  simp (disch:=omega) only [amL,amT,sA,sF,↓reduceIte,reduceCtorEq]
  refine hK5 _ ?_
  refine Aa fun K6 hK6=>?_
  refine Ag rfl (fun h=>?_) (fun h=>?_)
  ·first
   | exact Bool.noConfusion h
   |skip
    try simp only [decide_eq_true_eq] at h
    refine Aj ?_
    refine hK6 _ ?_
    refine Aa fun K7 hK7=>?_
    refine Ai ?_
    refine Aa fun K8 hK8=>?_
    refine Ac ?_
    simp (disch:=omega) only [amL,sA,sF,↓reduceIte,reduceCtorEq]
    refine hK8 _ ?_
    refine Aa fun K9 hK9=>?_
    refine Ac ?_
    simp (disch:=omega) only [Dx,amL,amT,sA,sB,sF,↓reduceIte,reduceCtorEq]
    refine Be [(0,.p (.sl (l.map F2))),(1,fv),(5,i64 k),(8,i64 k),(7,i64 l.length)] (by decide) (hT.call s1 (l.getD k default) os1 bd (Ee default (by omega)) hI1 hcl1) (hfreeI _ _ hI1 hfr1) (Nat.le_refl _) (fun res os2 hR hcl2 hlv2=>?_)
    obtain ⟨rfl,hI2,hfr2⟩:=hR
    have hv2:=hT.live _ _ hI2
    simp (disch:=omega) only [amL,sF,↓reduceIte,reduceCtorEq]
    refine ⟨hv2,?_⟩
    refine hK9 _ ?_
    refine Ag rfl (fun h=>?_) (fun h=>?_)
    ·first
     | exact Bool.noConfusion h
     |skip
      try simp only [Bool.not_eq_true',decide_eq_true_eq,decide_eq_false_iff_not,Bool.and_eq_true,Bool.not_eq_false',Bool.not_not,decide_not,Bool.not_true,Bool.not_false] at h
      refine Aa fun K10 hK10=>?_
      refine Ac ?_
      simp (disch:=omega) only [amL,sA,sF,↓reduceIte,reduceCtorEq]
      refine hK10 _ ?_
      refine Ae ?_
      try simp (disch:=omega) only [amL]
      first | (refine Az (res:=i64 _) os1 (by simp (disch:=omega) only [amL,↓reduceIte]; try rfl) (Sub.refl _) hcl1 (AV.lives_p _ _) ?_ ; rw [E9 (by omega) hsc]; exact ⟨rfl,hI1,hfr1⟩) | (refine Az (res:=i64 _) os2 (by simp (disch:=omega) only [amL,↓reduceIte]; try rfl) (Sub.refl _) hcl2 (AV.lives_p _ _) ?_ ; rw [D9 default (by omega) h hsc]; exact ⟨rfl,hI2,fun n hn=>(hfr2 n hn).trans (hfr1 n hn)⟩)
    ·first
     | exact Bool.noConfusion h
     |skip
      try simp only [Bool.not_eq_true',decide_eq_true_eq,decide_eq_false_iff_not,Bool.and_eq_true,Bool.not_eq_false',Bool.not_not,decide_not,Bool.not_true,Bool.not_false] at h
      refine Aj ?_
      refine hK7 _ ?_
      refine Ac ?_
      simp (disch:=omega) only [amL,amT,sA,sF,↓reduceIte,reduceCtorEq]
      refine hK4 (k+1,(step s1 (l.getD k default)).1,os2) _ ?_ ?_ (Dz ?_ ?_ ?_ ?_)
      all_goals (try simp (disch:=omega) only [amL,sF,↓reduceIte,reduceCtorEq])
      all_goals first | exact ⟨by omega,hI2,hcl2,fun n hn=>(hfr2 n hn).trans (hfr1 n hn),Kx default (by omega) h hsc⟩ | omega | exact hcl2 | exact Sub.refl _ | exact hv2
  ·first
   | exact Bool.noConfusion h
   |skip
    try simp only [decide_eq_false_iff_not] at h
    refine Bg ?_
    refine hK2 _ ?_
    refine Aa fun K11 hK11=>?_
    refine Ac ?_
    simp (disch:=omega) only [amL,sA,sM]
    refine hK11 _ ?_
    refine Ae ?_
    try simp (disch:=omega) only [amL,sM]
    first | (refine Az (res:=i64 _) os1 (by simp (disch:=omega) only [amL,sM,↓reduceIte]; try rfl) (Sub.refl _) hcl1 (AV.lives_p _ _) ?_ ; rw [E9 (by omega) hsc]; exact ⟨rfl,hI1,hfr1⟩) | (refine Az (res:=i64 _) os2 (by simp (disch:=omega) only [Dx,amL,amT,sA,sB,sC,sD,sE,sF,sG,sH,sI,sJ,sK,sL,sM,sN,sO,↓reduceIte,reduceCtorEq]; try rfl) (Sub.refl _) hcl2 (AV.lives_p _ _) ?_ ; rw [D9 default (by omega) h hsc]; exact ⟨rfl,hI2,fun n hn=>(hfr2 n hn).trans (hfr1 n hn)⟩)
theorem Baj {σ:Type} {fv:AV} {F:Nat→Prop} {l:List Fi} {I:σ→(Nat→Option AO)→Prop} {step:σ→Fi→σ × Bool} (hl:l.length < 1000000) (hT:Cv fv F (fun x=>.agg [i64 x.day,i64 x.pence]) l I step) {s:σ} {os:Nat→Option AO} {bd:Nat} (hI:I s os) :
    Bm Try.prog bd (.fn (.func 197) [] []) [.p (.sl (l.map F2)),fv] os fun res os'=>res=bl (decide (0≤(Dk step s l 0).2))∧I (Dk step s l 0).1 os'∧∀ n,¬ F n→os' n=os n:=by
  refine Bn (v:=[215]) (q:=[]) (N:=9) (rs:=[.tmp 4]) Try.func197 rfl (by kernel_rfl) rfl rfl (fun hcl hfree=>?_)
  refine Aa fun K1 hK1=>?_
  refine Ac ?_
  simp (disch:=omega) only [amL,sA,sB]
  refine hK1 _ ?_
  refine Aa fun K2 hK2=>?_
  refine Ac ?_
  simp (disch:=omega) only [amL,sA,sF,↓reduceIte,reduceCtorEq]
  refine Be [] (by decide) (Aza hl hT hI) hfree (Nat.le_refl _) (fun res os2 hR hcl2 hlv2=>?_)
  obtain ⟨rfl,hI2,hfr2⟩:=hR
  simp (disch:=omega) only [amL,amT,sA,↓reduceIte]
  refine hK2 _ ?_
  refine Ae ?_
  try simp (disch:=omega) only [amL]
  refine Az (res:=bl _) os2 (by simp (disch:=omega) only [amL,↓reduceIte]; try rfl) (Sub.refl _) hcl2 (AV.lives_p _ _) ⟨rfl,hI2,hfr2⟩
theorem Bam {σ:Type} {fv:AV} {F:Nat→Prop} {l:List Fi} {I:σ→(Nat→Option AO)→Prop} {step:σ→Fi→σ × Bool} (hT:Cv fv F (fun x=>.agg [i64 x.day,i64 x.pence]) l I step) {nb:Nat} (hnb:¬ F nb) {s:σ} {x:Fi} {os:Nat→Option AO} {bd:Nat} (hx:x ∈ l) (hI:I s os) (hnb1:os nb=some (.cells [fv])) :
    Bm Try.prog bd (.fn (.func 198) [] [.ptr nb 0]) [(fun x=>.agg [i64 x.day,i64 x.pence]) x] os fun res os'=>res=bl (!(step s x).2)∧(I (step s x).1 os'∧os' nb=some (.cells [fv]))∧∀ n,¬ (F n∨n=nb)→os' n=os n:=by
  refine Bn (v:=[]) (q:=[]) (N:=8) (rs:=[.tmp 3]) Try.func198 rfl (by kernel_rfl) rfl rfl (fun hcl hfree=>?_)
  have hlt:=Al hfree hnb1
  have hfr0:∀ k,os (bd+k)=none:=fun k=>hfree _ (by omega)
  have hlv:=hT.live _ _ hI
  have hcl0:(Hp (upd os (bd+2) (some (.cells ([i64 x.day,i64 x.pence]))))).closed:=Bc hcl (by rw [Bp]; simp only [A8,Ax,Da,and_self])
  have hI0:I s (upd os (bd+2) (some (.cells ([i64 x.day,i64 x.pence])))):=hT.stable s os _ hI (fun n hn=>Ad (by
    obtain ⟨o,h,_⟩:=hT.foot s os n hI hn
    have:=Al hfree h; omega))
  have hfr8:∀ n,bd+8≤n→upd os (bd+2) (some (.cells ([i64 x.day,i64 x.pence]))) n=none:=fun n hn=>by rw [Ad (by omega)]; exact hfree n (by omega)
  refine Aa fun K1 hK1=>?_
  refine Ac ?_
  simp (disch:=omega) only [hfr0,amL,sA,sB,↓reduceIte]
  refine hK1 _ ?_
  refine Aa fun K2 hK2=>?_
  refine Ac ?_
  simp (disch:=omega) only [hnb1,Ad,amL,amT,sA,sB,sF,↓reduceIte,reduceCtorEq]
  have hvc:=hT.call s x _ (bd+8) hx hI0 hcl0
  refine Be [] (by decide) hvc hfr8 (Nat.le_add_right bd 8) (fun res os2 hR hcl2 hlv2=>?_)
  obtain ⟨rfl,hI2,hfr2⟩:=hR
  simp (disch:=omega) only [amL,sA,↓reduceIte]
  refine hK2 _ ?_
  refine Ae ?_
  try simp (disch:=omega) only [amL]
  obtain ⟨g1,g2,g3⟩:=hT.drop hcl hfree hI hI2 (fun n hn hF=>by first | exact hfr2 n hF | (rw [hfr2 n hF,Ad (by omega)]))
  refine Az (res:=bl _) (Ap bd os2) (by simp (disch:=omega) only [amL,↓reduceIte]; try rfl) (Bh _ _) g1 (AV.lives_p _ _) ⟨rfl,⟨g2,?_⟩,fun n hn=>g3 n (fun h=>hn (.inl h))⟩
  rw [g3 nb hnb]; exact hnb1
theorem Azg {σ:Type} {fv:AV} {F:Nat→Prop} {l:List Fi} {I:σ→(Nat→Option AO)→Prop} {step:σ→Fi→σ × Bool} (hT:Cv fv F (fun x=>.agg [i64 x.day,i64 x.pence]) l I step) {nb:Nat} (hnb:¬ F nb) (hfv:∀ m,fv.clean m=false→F m) :
    Cv (.fn (.func 198) [] [.ptr nb 0]) (fun n=>F n∨n=nb) (fun x=>.agg [i64 x.day,i64 x.pence]) l (fun s os=>I s os∧os nb=some (.cells [fv])) (fun s x=>((step s x).1,!(step s x).2)):=by
  refine ⟨fun s os hI=>?_,fun s os os' hI h=>⟨hT.stable s os os' hI.1 (fun n hn=>h n (.inl hn)),(h nb (.inr rfl)).trans hI.2⟩,fun s os n hI hn=>?_,fun s x os bd hx hI _=>Bam hT hnb hx hI.1 hI.2⟩
  · rw [Cl,A8,Ax,A8,Bz,hI.2]; exact ⟨trivial,rfl,trivial⟩
  · rcases hn with hn | rfl
    · obtain ⟨o,h1,h2⟩:=hT.foot s os n hI.1 hn
      exact ⟨o,h1,fun m hm=>.inl (h2 m hm)⟩
    · refine ⟨_,hI.2,fun m hm=>.inl (hfv m ?_)⟩
      simpa [AO.clean,AV.clean.cleanL] using hm
theorem c86 {σ:Type} {ff:Fn} {fs cs:List AV} {F:Nat→Prop} {l:List Fi} {I:σ→(Nat→Option AO)→Prop} {step:σ→Fi→σ × Bool} (hl:l.length < 1000000) (hT:Cv (.fn ff fs cs) F (fun x=>.agg [i64 x.day,i64 x.pence]) l I step) (hfv:∀ m,(AV.fn ff fs cs).clean m=false→F m) {s:σ} {os:Nat→Option AO} {bd:Nat} (hI:I s os) :
    Bm Try.prog bd (.fn (.func 164) [] []) [.p (.sl (l.map F2)),.fn ff fs cs] os fun res os'=>res=bl (Ca step s l).2∧I (Ca step s l).1 os'∧∀ n,¬ F n→os' n=os n:=by
  refine Bn (v:=[197]) (q:=[]) (N:=9) (rs:=[.tmp 4]) Try.func164 rfl (by kernel_rfl) rfl rfl (fun hcl hfree=>?_)
  have hfr0:∀ k,os (bd+k)=none:=fun k=>hfree _ (by omega)
  have hF:∀ n,F n→n < bd:=fun n hn=>by obtain ⟨o,h,_⟩:=hT.foot s os n hI hn; exact Al hfree h
  have hlv:=hT.live _ _ hI
  have hcl0:(Hp (upd os (bd+3) (some (.cells [.fn ff fs cs])))).closed:=Bc hcl (by
    rw [Bp,Ax,A8]
    exact ⟨AV.lives_mono (fun n hn=>by
                                         by_cases e:n=bd+3; · subst e; rw [Ak]; rfl
                                         · rw [Ad e]; exact hn) hlv,trivial⟩)
  have hI0:I s (upd os (bd+3) (some (.cells [.fn ff fs cs]))):=hT.stable s os _ hI (fun n hn=>Ad (by have:=hF n hn; omega))
  have ht:=Azg hT (nb:=bd+3) (fun h=>by have:=hF _ h; omega) hfv
  obtain ⟨sa1,sa2⟩:=H3 (step:=step) l s 0
  refine Aa fun K1 hK1=>?_
  refine Ac ?_
  simp (disch:=omega) only [hfr0,amL,sA,sB,↓reduceIte,reduceCtorEq]
  refine hK1 _ ?_
  refine Aa fun K2 hK2=>?_
  refine Ac ?_
  simp (disch:=omega) only [amL,sA,sF,↓reduceIte,reduceCtorEq]
  refine Be [] (by decide) (Baj (bd:=bd+9) hl ht ⟨hI0,Ak⟩) (fun n hn=>by first | exact hfree n (by omega) | (rw [Ad (by omega)]; exact hfree n (by omega))) (Nat.le_add_right bd 9) (fun res os2 hR hcl2 hlv2=>?_)
  obtain ⟨rfl,⟨hI2,_⟩,hfr2⟩:=hR
  simp (disch:=omega) only [amL,sA,↓reduceIte]
  refine hK2 _ ?_
  refine Ae ?_
  try simp (disch:=omega) only [amL]
  rw [sa1] at hI2
  obtain ⟨g1,g2,g3⟩:=hT.drop hcl hfree hI hI2 (fun n hn hF=>by rw [hfr2 n (fun h=>h.elim hF (fun e=>by omega)),Ad (by omega)])
  refine Az (res:=bl _) (Ap bd os2) (by simp (disch:=omega) only [amL,↓reduceIte]; try rfl) (Bh _ _) g1 (AV.lives_p _ _) ⟨by rw [sa2],g2,g3⟩
theorem Bar {σ:Type} {fv:AV} {F:Nat→Prop} {l:List Bo} {I:σ→(Nat→Option AO)→Prop} {step:σ→Bo→σ × Bool} (hl:l.length < 1000000) (hT:Cv fv F avE l I step) {s:σ} {os:Nat→Option AO} {bd:Nat} (hI:I s os) :
    Bm Try.prog bd (.fn (.func 199) [] []) [.p (.sl (l.map Lb)),fv] os fun res os'=>res=i64 (Dk step s l 0).2∧I (Dk step s l 0).1 os'∧∀ n,¬ F n→os' n=os n:=by
  refine Bn (v:=[]) (q:=[]) (N:=19) (rs:=[.tmp 4]) Try.func199 rfl (by kernel_rfl) rfl rfl (fun hcl hfree=>?_)
  have hfreeI:∀ (s1:σ) os1,I s1 os1→(∀ n,¬ F n→os1 n=os n)→∀ n,bd≤n→os1 n=none:=fun s1 os1 h1 h2 n hn=>by
    by_cases hFn:F n
    · obtain ⟨o,h3,_⟩:=hT.foot s os n hI hFn
      have:=Al hfree h3; omega
    · rw [h2 n hFn]; exact hfree n hn
  refine Aa fun K1 hK1=>?_
  refine Ac ?_
  simp (disch:=omega) only [amL,sA,sB]
  refine hK1 _ ?_
  refine Aa fun K2 hK2=>?_
  refine Aa fun K3 hK3=>?_
  refine Ac ?_
  simp (disch:=omega) only [amL,amT,sA,↓reduceIte,reduceCtorEq]
  refine hK3 _ ?_
  refine Ai ?_
  skip
  refine A7 (α:=Nat × σ × (Nat→Option AO)) (fun x=>⟨T [(0,.p (.sl (l.map Lb))),(1,fv),(8,i64 x.1),(7,i64 l.length)],x.2.2⟩) (fun x=>l.length - x.1) (fun x=>x.1≤l.length∧I x.2.1 x.2.2∧(Hp x.2.2).closed∧(∀ n,¬ F n→x.2.2 n=os n)∧Dk step x.2.1 (l.drop x.1) x.1=Dk step s l 0) (0,s,os) ?_ ?_ (fun x hx4 K4 hK4=>?_)
  · exact ⟨by simp,hI,hcl,fun _ _=>rfl,by simp⟩
  · refine Dz ?_ ?_ ?_ ?_ <;> (try simp (disch:=omega) only [amL,sF,↓reduceIte,reduceCtorEq]); all_goals first | exact hcl | exact Sub.refl _ | exact hT.live _ _ hI
  obtain ⟨k,s1,os1⟩:=x; dsimp only at hx4 ⊢; obtain ⟨hk,hI1,hcl1,hfr1,hsc⟩:=hx4
  refine Aa fun K5 hK5=>?_
  refine Ac ?_
  simp (disch:=omega) only [amL,amT,sA,sF,↓reduceIte,reduceCtorEq]
  refine hK5 _ ?_
  refine Aa fun K6 hK6=>?_
  refine Ag rfl (fun h=>?_) (fun h=>?_)
  ·first
   | exact Bool.noConfusion h
   |skip
    try simp only [decide_eq_true_eq] at h
    refine Aj ?_
    refine hK6 _ ?_
    refine Aa fun K7 hK7=>?_
    refine Ai ?_
    refine Aa fun K8 hK8=>?_
    refine Ac ?_
    simp (disch:=omega) only [amL,sA,sF,↓reduceIte,reduceCtorEq]
    refine hK8 _ ?_
    refine Aa fun K9 hK9=>?_
    refine Ac ?_
    simp (disch:=omega) only [B9,amL,amT,sA,sB,sF,↓reduceIte,reduceCtorEq]
    refine Be [(0,.p (.sl (l.map Lb))),(1,fv),(5,i64 k),(8,i64 k),(7,i64 l.length)] (by decide) (hT.call s1 (l.getD k default) os1 bd (Ee default (by omega)) hI1 hcl1) (hfreeI _ _ hI1 hfr1) (Nat.le_refl _) (fun res os2 hR hcl2 hlv2=>?_)
    obtain ⟨rfl,hI2,hfr2⟩:=hR
    have hv2:=hT.live _ _ hI2
    simp (disch:=omega) only [amL,sF,↓reduceIte,reduceCtorEq]
    refine ⟨hv2,?_⟩
    refine hK9 _ ?_
    refine Ag rfl (fun h=>?_) (fun h=>?_)
    ·first
     | exact Bool.noConfusion h
     |skip
      try simp only [Bool.not_eq_true',decide_eq_true_eq,decide_eq_false_iff_not,Bool.and_eq_true,Bool.not_eq_false',Bool.not_not,decide_not,Bool.not_true,Bool.not_false] at h
      refine Aa fun K10 hK10=>?_
      refine Ac ?_
      simp (disch:=omega) only [amL,sA,sF,↓reduceIte,reduceCtorEq]
      refine hK10 _ ?_
      refine Ae ?_
      try simp (disch:=omega) only [amL]
      first | (refine Az (res:=i64 _) os1 (by simp (disch:=omega) only [amL,↓reduceIte]; try rfl) (Sub.refl _) hcl1 (AV.lives_p _ _) ?_ ; rw [E9 (by omega) hsc]; exact ⟨rfl,hI1,hfr1⟩) | (refine Az (res:=i64 _) os2 (by simp (disch:=omega) only [amL,↓reduceIte]; try rfl) (Sub.refl _) hcl2 (AV.lives_p _ _) ?_ ; rw [D9 default (by omega) h hsc]; exact ⟨rfl,hI2,fun n hn=>(hfr2 n hn).trans (hfr1 n hn)⟩)
    ·first
     | exact Bool.noConfusion h
     |skip
      try simp only [Bool.not_eq_true',decide_eq_true_eq,decide_eq_false_iff_not,Bool.and_eq_true,Bool.not_eq_false',Bool.not_not,decide_not,Bool.not_true,Bool.not_false] at h
      refine Aj ?_
      refine hK7 _ ?_
      refine Ac ?_
      simp (disch:=omega) only [amL,amT,sA,sF,↓reduceIte,reduceCtorEq]
      refine hK4 (k+1,(step s1 (l.getD k default)).1,os2) _ ?_ ?_ (Dz ?_ ?_ ?_ ?_)
      all_goals (try simp (disch:=omega) only [amL,sF,↓reduceIte,reduceCtorEq])
      all_goals first | exact ⟨by omega,hI2,hcl2,fun n hn=>(hfr2 n hn).trans (hfr1 n hn),Kx default (by omega) h hsc⟩ | omega | exact hcl2 | exact Sub.refl _ | exact hv2
  ·first
   | exact Bool.noConfusion h
   |skip
    try simp only [decide_eq_false_iff_not] at h
    refine Bg ?_
    refine hK2 _ ?_
    refine Aa fun K11 hK11=>?_
    refine Ac ?_
    simp (disch:=omega) only [amL,sA,sM]
    refine hK11 _ ?_
    refine Ae ?_
    try simp (disch:=omega) only [amL,sM]
    first | (refine Az (res:=i64 _) os1 (by simp (disch:=omega) only [amL,sM,↓reduceIte]; try rfl) (Sub.refl _) hcl1 (AV.lives_p _ _) ?_ ; rw [E9 (by omega) hsc]; exact ⟨rfl,hI1,hfr1⟩) | (refine Az (res:=i64 _) os2 (by simp (disch:=omega) only [B9,amL,amT,sA,sB,sC,sD,sE,sF,sG,sH,sI,sJ,sK,sL,sM,sN,sO,↓reduceIte,reduceCtorEq]; try rfl) (Sub.refl _) hcl2 (AV.lives_p _ _) ?_ ; rw [D9 default (by omega) h hsc]; exact ⟨rfl,hI2,fun n hn=>(hfr2 n hn).trans (hfr1 n hn)⟩)
theorem c88 {σ:Type} {fv:AV} {F:Nat→Prop} {l:List Bo} {I:σ→(Nat→Option AO)→Prop} {step:σ→Bo→σ × Bool} (hl:l.length < 1000000) (hT:Cv fv F avE l I step) {s:σ} {os:Nat→Option AO} {bd:Nat} (hI:I s os) :
    Bm Try.prog bd (.fn (.func 166) [] []) [.p (.sl (l.map Lb)),fv] os fun res os'=>res=bl (decide (0≤(Dk step s l 0).2))∧I (Dk step s l 0).1 os'∧∀ n,¬ F n→os' n=os n:=by
  refine Bn (v:=[199]) (q:=[]) (N:=9) (rs:=[.tmp 4]) Try.func166 rfl (by kernel_rfl) rfl rfl (fun hcl hfree=>?_)
  refine Aa fun K1 hK1=>?_
  refine Ac ?_
  simp (disch:=omega) only [amL,sA,sB]
  refine hK1 _ ?_
  refine Aa fun K2 hK2=>?_
  refine Ac ?_
  simp (disch:=omega) only [amL,sA,sF,↓reduceIte,reduceCtorEq]
  refine Be [] (by decide) (Bar hl hT hI) hfree (Nat.le_refl _) (fun res os2 hR hcl2 hlv2=>?_)
  obtain ⟨rfl,hI2,hfr2⟩:=hR
  simp (disch:=omega) only [amL,amT,sA,↓reduceIte]
  refine hK2 _ ?_
  refine Ae ?_
  try simp (disch:=omega) only [amL]
  refine Az (res:=bl _) os2 (by simp (disch:=omega) only [amL,↓reduceIte]; try rfl) (Sub.refl _) hcl2 (AV.lives_p _ _) ⟨rfl,hI2,hfr2⟩
theorem u89 {σ:Type} {fv:AV} {F:Nat→Prop} {l:List Bo} {I:σ→(Nat→Option AO)→Prop} {step:σ→Bo→σ × Bool} (hT:Cv fv F avE l I step) {nb:Nat} (hnb:¬ F nb) {s:σ} {x:Bo} {os:Nat→Option AO} {bd:Nat} (hx:x ∈ l) (hI:I s os) (hnb1:os nb=some (.cells [fv])) :
    Bm Try.prog bd (.fn (.func 167) [] [.ptr nb 0]) [avE x] os fun res os'=>res=bl (!(step s x).2)∧(I (step s x).1 os'∧os' nb=some (.cells [fv]))∧∀ n,¬ (F n∨n=nb)→os' n=os n:=by
  refine Bn (v:=[]) (q:=[]) (N:=8) (rs:=[.tmp 3]) Try.func167 rfl (by kernel_rfl) rfl rfl (fun hcl hfree=>?_)
  have hlt:=Al hfree hnb1
  have hfr0:∀ k,os (bd+k)=none:=fun k=>hfree _ (by omega)
  have hlv:=hT.live _ _ hI
  have hcl0:(Hp (upd os (bd+2) (some (.cells ([i64 x.kind,i64 x.day,i64 x.lo,i64 x.hi,i64 x.pence]))))).closed:=Bc hcl (by rw [Bp]; simp only [A8,Ax,Da,and_self])
  have hI0:I s (upd os (bd+2) (some (.cells ([i64 x.kind,i64 x.day,i64 x.lo,i64 x.hi,i64 x.pence])))):=hT.stable s os _ hI (fun n hn=>Ad (by
    obtain ⟨o,h,_⟩:=hT.foot s os n hI hn
    have:=Al hfree h; omega))
  have hfr8:∀ n,bd+8≤n→upd os (bd+2) (some (.cells ([i64 x.kind,i64 x.day,i64 x.lo,i64 x.hi,i64 x.pence]))) n=none:=fun n hn=>by rw [Ad (by omega)]; exact hfree n (by omega)
  refine Aa fun K1 hK1=>?_
  refine Ac ?_
  simp (disch:=omega) only [hfr0,amL,sA,sB,↓reduceIte]
  refine hK1 _ ?_
  refine Aa fun K2 hK2=>?_
  refine Ac ?_
  simp (disch:=omega) only [hnb1,Ad,amL,amT,sA,sB,sF,↓reduceIte,reduceCtorEq]
  have hvc:=hT.call s x _ (bd+8) hx hI0 hcl0
  refine Be [] (by decide) hvc hfr8 (Nat.le_add_right bd 8) (fun res os2 hR hcl2 hlv2=>?_)
  obtain ⟨rfl,hI2,hfr2⟩:=hR
  simp (disch:=omega) only [amL,sA,↓reduceIte]
  refine hK2 _ ?_
  refine Ae ?_
  try simp (disch:=omega) only [amL]
  obtain ⟨g1,g2,g3⟩:=hT.drop hcl hfree hI hI2 (fun n hn hF=>by first | exact hfr2 n hF | (rw [hfr2 n hF,Ad (by omega)]))
  refine Az (res:=bl _) (Ap bd os2) (by simp (disch:=omega) only [amL,↓reduceIte]; try rfl) (Bh _ _) g1 (AV.lives_p _ _) ⟨rfl,⟨g2,?_⟩,fun n hn=>g3 n (fun h=>hn (.inl h))⟩
  rw [g3 nb hnb]; exact hnb1
theorem t89 {σ:Type} {fv:AV} {F:Nat→Prop} {l:List Bo} {I:σ→(Nat→Option AO)→Prop} {step:σ→Bo→σ × Bool} (hT:Cv fv F avE l I step) {nb:Nat} (hnb:¬ F nb) (hfv:∀ m,fv.clean m=false→F m) :
    Cv (.fn (.func 167) [] [.ptr nb 0]) (fun n=>F n∨n=nb) avE l (fun s os=>I s os∧os nb=some (.cells [fv])) (fun s x=>((step s x).1,!(step s x).2)):=by
  refine ⟨fun s os hI=>?_,fun s os os' hI h=>⟨hT.stable s os os' hI.1 (fun n hn=>h n (.inl hn)),(h nb (.inr rfl)).trans hI.2⟩,fun s os n hI hn=>?_,fun s x os bd hx hI _=>u89 hT hnb hx hI.1 hI.2⟩
  · rw [Cl,A8,Ax,A8,Bz,hI.2]; exact ⟨trivial,rfl,trivial⟩
  · rcases hn with hn | rfl
    · obtain ⟨o,h1,h2⟩:=hT.foot s os n hI.1 hn
      exact ⟨o,h1,fun m hm=>.inl (h2 m hm)⟩
    · refine ⟨_,hI.2,fun m hm=>.inl (hfv m ?_)⟩
      simpa [AO.clean,AV.clean.cleanL] using hm
theorem c65 {σ:Type} {ff:Fn} {fs cs:List AV} {F:Nat→Prop} {l:List Bo} {I:σ→(Nat→Option AO)→Prop} {step:σ→Bo→σ × Bool} (hl:l.length < 1000000) (hT:Cv (.fn ff fs cs) F avE l I step) (hfv:∀ m,(AV.fn ff fs cs).clean m=false→F m) {s:σ} {os:Nat→Option AO} {bd:Nat} (hI:I s os) :
    Bm Try.prog bd (.fn (.func 121) [] []) [.p (.sl (l.map Lb)),.fn ff fs cs] os fun res os'=>res=bl (Ca step s l).2∧I (Ca step s l).1 os'∧∀ n,¬ F n→os' n=os n:=by
  refine Bn (v:=[166]) (q:=[]) (N:=9) (rs:=[.tmp 4]) Try.func121 rfl (by kernel_rfl) rfl rfl (fun hcl hfree=>?_)
  have hfr0:∀ k,os (bd+k)=none:=fun k=>hfree _ (by omega)
  have hF:∀ n,F n→n < bd:=fun n hn=>by obtain ⟨o,h,_⟩:=hT.foot s os n hI hn; exact Al hfree h
  have hlv:=hT.live _ _ hI
  have hcl0:(Hp (upd os (bd+3) (some (.cells [.fn ff fs cs])))).closed:=Bc hcl (by
    rw [Bp,Ax,A8]
    exact ⟨AV.lives_mono (fun n hn=>by
                                         by_cases e:n=bd+3; · subst e; rw [Ak]; rfl
                                         · rw [Ad e]; exact hn) hlv,trivial⟩)
  have hI0:I s (upd os (bd+3) (some (.cells [.fn ff fs cs]))):=hT.stable s os _ hI (fun n hn=>Ad (by have:=hF n hn; omega))
  have ht:=t89 hT (nb:=bd+3) (fun h=>by have:=hF _ h; omega) hfv
  obtain ⟨sa1,sa2⟩:=H3 (step:=step) l s 0
  refine Aa fun K1 hK1=>?_
  refine Ac ?_
  simp (disch:=omega) only [hfr0,amL,sA,sB,↓reduceIte,reduceCtorEq]
  refine hK1 _ ?_
  refine Aa fun K2 hK2=>?_
  refine Ac ?_
  simp (disch:=omega) only [amL,sA,sF,↓reduceIte,reduceCtorEq]
  refine Be [] (by decide) (c88 (bd:=bd+9) hl ht ⟨hI0,Ak⟩) (fun n hn=>by first | exact hfree n (by omega) | (rw [Ad (by omega)]; exact hfree n (by omega))) (Nat.le_add_right bd 9) (fun res os2 hR hcl2 hlv2=>?_)
  obtain ⟨rfl,⟨hI2,_⟩,hfr2⟩:=hR
  simp (disch:=omega) only [amL,sA,↓reduceIte]
  refine hK2 _ ?_
  refine Ae ?_
  try simp (disch:=omega) only [amL]
  rw [sa1] at hI2
  obtain ⟨g1,g2,g3⟩:=hT.drop hcl hfree hI hI2 (fun n hn hF=>by rw [hfr2 n (fun h=>h.elim hF (fun e=>by omega)),Ad (by omega)])
  refine Az (res:=bl _) (Ap bd os2) (by simp (disch:=omega) only [amL,↓reduceIte]; try rfl) (Bh _ _) g1 (AV.lives_p _ _) ⟨by rw [sa2],g2,g3⟩
theorem c48 (n lo hi:Int):Bf Try.prog 67 [i64 n,i64 lo,i64 hi] (bl (inB n lo hi)):=by
  refine Au (v:=[]) (q:=[]) (N:=15) (rs:=[.tmp 6]) Try.func67 rfl rfl rfl rfl rfl ?_
  refine Aa fun K1 hK1=>?_
  refine Ac ?_
  simp (disch:=omega) only [amL,sA,sB]
  refine hK1 _ ?_
  refine Aa fun K2 hK2=>?_
  refine Ac ?_
  simp (disch:=omega) only [amL,amT,sA,sF,↓reduceIte,reduceCtorEq]
  repeat' first | (refine B2 (fun h=>?_) (fun h=>?_) <;> simp (disch:=omega) only [h,amL,amT,sA,sF,↓reduceIte,reduceCtorEq]) | (refine Ba (fun h=>?_) (fun h=>?_) <;> simp (disch:=omega) only [h,amL,amT,sA,sB,sC,sD,sE,sF,sG,sH,sI,sJ,sK,sL,sM,sN,sO,↓reduceIte,reduceCtorEq])
  all_goals
   skip
   refine hK2 _ ?_
   refine Ae ?_
   try simp (disch:=omega) only [amL,↓reduceIte]
   simp [inB,h]
theorem c84 (a:Acc) (e:Bo):Bf Try.prog 68 [avA a,avE e] (bl (Cb a.last e)):=by
  refine Au (v:=[]) (q:=[]) (N:=85) (rs:=[.tmp 4]) Try.func68 rfl rfl rfl rfl rfl ?_
  refine Aa fun K1 hK1=>?_
  refine Ac ?_
  simp (disch:=omega) only [amL,sA,sB,sF,↓reduceIte,reduceCtorEq]
  refine hK1 _ ?_
  refine Aa fun K2 hK2=>?_
  refine Ac ?_
  simp (disch:=omega) only [amL,amT,sA,sB,sE,sF,↓reduceIte,reduceCtorEq]
  refine hK2 _ ?_
  refine Aa fun K3 hK3=>?_
  refine Aa fun K4 hK4=>?_
  refine Ac ?_
  simp (disch:=omega) only [amL,amT,sA,sF,↓reduceIte,reduceCtorEq]
  repeat' first | (refine Am (by kernel_rfl) rfl (c48 _ _ _) (by first | exact .inl rfl | exact .inr (.inl rfl)) ?_ ; simp (disch:=omega) only [amL,sA,↓reduceIte])
  refine hK4 _ ?_
  refine Ag rfl (fun h=>?_) (fun h=>?_)
  ·first
   | exact Bool.noConfusion h
   |skip
    try simp only [Bool.not_eq_true'] at h
    refine Aa fun K5 hK5=>?_
    refine Ac ?_
    simp (disch:=omega) only [amL,sA]
    refine hK5 _ ?_
    refine Ae ?_
    try simp (disch:=omega) only [amL,↓reduceIte]
    all_goals (simp_all [Cb] <;> omega)
  ·first
   | exact Bool.noConfusion h
   |skip
    try simp only [Bool.not_eq_false'] at h
    refine Aj ?_
    refine hK3 _ ?_
    refine Aa fun K6 hK6=>?_
    refine Aa fun K7 hK7=>?_
    refine Ac ?_
    simp (disch:=omega) only [amL,amT,sA,sF,↓reduceIte,reduceCtorEq]
    refine hK7 _ ?_
    refine Ai ?_
    refine Aa fun K8 hK8=>?_
    refine Ac ?_
    simp (disch:=omega) only [amL,amT,sA,↓reduceIte]
    refine hK8 _ ?_
    refine Ag rfl (fun h=>?_) (fun h=>?_)
    ·first
     | exact Bool.noConfusion h
     |skip
      try simp only [decide_eq_true_eq] at h
      refine Aa fun K9 hK9=>?_
      refine Ac ?_
      simp (disch:=omega) only [amL,amT,sA,sF,↓reduceIte,reduceCtorEq]
      repeat' first | (refine B2 (fun h=>?_) (fun h=>?_) <;> simp (disch:=omega) only [h,amL,amT,sA,sF,↓reduceIte,reduceCtorEq]) | (refine Ba (fun h=>?_) (fun h=>?_) <;> simp (disch:=omega) only [h,amL,amT,sA,sB,sC,sD,sE,sF,sG,sH,sI,sJ,sK,sL,sM,sN,sO,↓reduceIte,reduceCtorEq])
      all_goals
       skip
       refine hK9 _ ?_
       refine Ae ?_
       try simp (disch:=omega) only [amL,↓reduceIte]
       all_goals (simp_all [Cb] <;> omega)
    ·first
     | exact Bool.noConfusion h
     |skip
      try simp only [decide_eq_false_iff_not] at h
      refine Aa fun K10 hK10=>?_
      refine Ac ?_
      simp (disch:=omega) only [amL,amT,sA,sF,↓reduceIte]
      refine hK10 _ ?_
      refine Ag rfl (fun h=>?_) (fun h=>?_)
      ·first
       | exact Bool.noConfusion h
       |skip
        try simp only [decide_eq_true_eq] at h
        refine Aa fun K11 hK11=>?_
        refine Ac ?_
        simp (disch:=omega) only [amL,amT,sA,sF,↓reduceIte,reduceCtorEq]
        repeat' first | (refine B2 (fun h=>?_) (fun h=>?_) <;> simp (disch:=omega) only [h,amL,amT,sA,sF,↓reduceIte,reduceCtorEq]) | (refine Ba (fun h=>?_) (fun h=>?_) <;> simp (disch:=omega) only [h,amL,amT,sA,sB,sC,sD,sE,sF,sG,sH,sI,sJ,sK,sL,sM,sN,sO,↓reduceIte,reduceCtorEq]) | (refine Am (by kernel_rfl) rfl (c48 _ _ _) (by first | exact .inl rfl | exact .inr (.inl rfl)) ?_ ; simp (disch:=omega) only [amL,sA,sF,↓reduceIte])
        all_goals
         skip
         refine hK11 _ ?_
         refine Ae ?_
         try simp (disch:=omega) only [amL,↓reduceIte]
         all_goals (simp_all [Cb] <;> omega)
      ·first
       | exact Bool.noConfusion h
       |skip
        try simp only [decide_eq_false_iff_not] at h
        refine Aa fun K12 hK12=>?_
        refine Ac ?_
        simp (disch:=omega) only [amL,amT,sA,sF,↓reduceIte]
        refine hK12 _ ?_
        refine Ag rfl (fun h=>?_) (fun h=>?_)
        ·first
         | exact Bool.noConfusion h
         |skip
          try simp only [decide_eq_true_eq] at h
          refine Aa fun K13 hK13=>?_
          refine Ac ?_
          simp (disch:=omega) only [amL,amT,sA,sF,↓reduceIte,reduceCtorEq]
          repeat' first | (refine B2 (fun h=>?_) (fun h=>?_) <;> simp (disch:=omega) only [h,amL,amT,sA,sF,↓reduceIte,reduceCtorEq]) | (refine Ba (fun h=>?_) (fun h=>?_) <;> simp (disch:=omega) only [h,amL,amT,sA,sF,↓reduceIte,reduceCtorEq]) | (refine Am (by kernel_rfl) rfl (c48 _ _ _) (by first | exact .inl rfl | exact .inr (.inl rfl)) ?_ ; simp (disch:=omega) only [amL,sA,↓reduceIte])
          all_goals
           skip
           refine hK13 _ ?_
           refine Ae ?_
           try simp (disch:=omega) only [amL,↓reduceIte]
           all_goals (simp_all [Cb] <;> omega)
        ·first
         | exact Bool.noConfusion h
         |skip
          try simp only [decide_eq_false_iff_not] at h
          refine Aa fun K14 hK14=>?_
          refine Ac ?_
          simp (disch:=omega) only [amL,amT,sA,sF,↓reduceIte]
          refine hK14 _ ?_
          refine Ag rfl (fun h=>?_) (fun h=>?_)
          ·first
           | exact Bool.noConfusion h
           |skip
            try simp only [decide_eq_true_eq] at h
            refine Aa fun K15 hK15=>?_
            refine Ac ?_
            simp (disch:=omega) only [amL,amT,sA,sF,sM,↓reduceIte,reduceCtorEq]
            repeat' first | (refine B2 (fun h=>?_) (fun h=>?_) <;> simp (disch:=omega) only [h,amL,amT,sA,sF,sM,↓reduceIte,reduceCtorEq]) | (refine Ba (fun h=>?_) (fun h=>?_) <;> simp (disch:=omega) only [h,amL,amT,sA,sB,sC,sD,sE,sF,sG,sH,sI,sJ,sK,sL,sM,sN,sO,↓reduceIte,reduceCtorEq]) | (refine Am (by kernel_rfl) rfl (c48 _ _ _) (by first | exact .inl rfl | exact .inr (.inl rfl)) ?_ ; simp (disch:=omega) only [amL,sA,sF,sM,↓reduceIte])
            all_goals
             skip
             refine hK15 _ ?_
             refine Ae ?_
             try simp (disch:=omega) only [amL,sM,↓reduceIte]
             all_goals (simp_all [Cb] <;> omega)
          ·first
           | exact Bool.noConfusion h
           |skip
            try simp only [decide_eq_false_iff_not] at h
            refine Aj ?_
            refine hK6 _ ?_
            refine Aa fun K16 hK16=>?_
            refine Ac ?_
            simp (disch:=omega) only [amL,sA]
            refine hK16 _ ?_
            refine Ae ?_
            try simp (disch:=omega) only [amL,↓reduceIte]
            all_goals (simp_all [Cb] <;> omega)
def Lc (l:List Bo):Int:=l.foldl (fun n e=>n * (e.hi - e.lo+1)) 1
theorem H5 {l:List Bo} {k:Nat} (h:k < l.length):Lc (l.take (k+1))=Lc (l.take k) * ((A9 l k).hi - (A9 l k).lo+1):=by
  unfold Lc
  rw [List.take_add_one,List.foldl_append]
  simp [h,A9,List.getD]
def Rv (l:List Bo):Prop:=l.length≤11∧∀ k,k < l.length→0≤(A9 l k).lo∧(A9 l k).lo≤(A9 l k).hi∧(A9 l k).hi≤50
theorem Sh {l:List Bo} (h:Rv l):∀ k,k≤l.length→1≤Lc (l.take k)∧Lc (l.take k)≤51 ^ k
  | 0,_=>by simp [Lc]
  | k+1,hk=>by
    obtain ⟨h1,h2⟩:=Sh h k (by omega)
    obtain ⟨h3,h4,h5⟩:=h.2 k (by omega)
    rw [H5 (by omega)]
    have h6:1≤(A9 l k).hi - (A9 l k).lo+1:=by omega
    have h7:(A9 l k).hi - (A9 l k).lo+1≤51:=by omega
    refine ⟨?_,?_⟩
    · have:=Int.mul_le_mul h1 h6 (by omega) (by omega); simpa using this
    · rw [Int.pow_succ]
      exact Int.mul_le_mul h2 h7 (by omega) (Int.le_of_lt (Int.pow_pos (by decide)))
theorem Qk {l:List Bo} (h:Rv l) {k:Nat} (hk:k≤l.length):1≤Lc (l.take k)∧Lc (l.take k)≤6071163615208263051:=by
  obtain ⟨h1,h2⟩:=Sh h k hk
  refine ⟨h1,Int.le_trans h2 ?_⟩
  have hk':k≤11:=Nat.le_trans hk h.1
  have:k=0∨k=1∨k=2∨k=3∨k=4∨k=5∨k=6∨k=7∨k=8∨k=9∨k=10∨k=11:=by omega
  rcases this with rfl | rfl | rfl | rfl | rfl | rfl | rfl | rfl | rfl | rfl | rfl | rfl <;> decide
theorem Z8 {x:Int} {e:Bo} (h1:1≤x * (e.hi - e.lo+1)) (h2:x * (e.hi - e.lo+1)≤6071163615208263051):IntKind.i64.wrap (x * (e.hi - e.lo+1))=x * (e.hi - e.lo+1):=Gk (by omega) (by omega)
theorem c50 (a:Acc) (hs:Rv a.entries):Bf Try.prog 69 [avA a] (i64 (Lc a.entries)):=by
  refine Au (v:=[]) (q:=[]) (N:=31) (rs:=[.tmp 2]) Try.func69 rfl rfl rfl rfl rfl ?_
  have hlen:=hs.1
  refine Aa fun K1 hK1=>?_
  refine Ac ?_
  simp (disch:=omega) only [amL,sA,↓reduceIte]
  refine hK1 _ ?_
  refine Aa fun K2 hK2=>?_
  refine Ac ?_
  simp (disch:=omega) only [amL,sA]
  refine hK2 _ ?_
  refine Aa fun K3 hK3=>?_
  refine Aa fun K4 hK4=>?_
  refine Ac ?_
  simp (disch:=omega) only [amL,sA]
  refine hK4 _ ?_
  refine Ai ?_
  skip
  refine A7 (α:=Nat) (fun k=>⟨T [(1,.ptr 1 0),(3,i64 (Lc (a.entries.take k))),(4,i64 k)],O [(1,.cells [i64 a.last,i64 a.interest,i64 a.bond,i64 a.purse,.p (.sl (a.rates.map F2)),.p (.sl (a.entries.map Lb))])]⟩) (fun k=>a.entries.length - k) (fun k=>k≤a.entries.length) 0 ?_ ?_ (fun k hx5 K5 hK5=>?_)
  · simp
  · refine B7 ?_ ?_ ?_ ?_ <;> (try simp (disch:=omega) only [amL,sF,↓reduceIte]) <;> rfl
  have hb:=Qk hs hx5
  refine Aa fun K6 hK6=>?_
  refine Aa fun K7 hK7=>?_
  refine Ac ?_
  simp (disch:=omega) only [amL,amT,sA,sF,↓reduceIte,reduceCtorEq]
  refine hK7 _ ?_
  refine Ag rfl (fun h=>?_) (fun h=>?_)
  ·first
   | exact Bool.noConfusion h
   |skip
    try simp only [decide_eq_true_eq] at h
    refine Aj ?_
    refine hK6 _ ?_
    refine Aa fun K8 hK8=>?_
    refine Ai ?_
    refine Bk (by kernel_rfl) (by kernel_rfl) ?_
    have hk:k < a.entries.length:=by omega
    obtain ⟨e1,e2,e3⟩:=hs.2 k hk
    have hb2:=Qk hs (show k+1≤a.entries.length by omega)
    rw [H5 hk] at hb2
    have hw:=Z8 hb2.1 hb2.2
    simp (disch:=omega) only [hw,B9,amL,amT,sA,sB,sF,↓reduceIte,reduceCtorEq]
    refine hK8 _ ?_
    refine Ac ?_
    simp (disch:=omega) only [amL,amT,sA,sF,↓reduceIte]
    refine hK5 (k+1) _ ?_ ?_ (B7 ?_ ?_ ?_ ?_)
    all_goals (try simp (disch:=omega) only [amL,sF,↓reduceIte])
    all_goals first | omega | rw [H5 hk]
  ·first
   | exact Bool.noConfusion h
   |skip
    try simp only [decide_eq_false_iff_not] at h
    refine Bg ?_
    refine hK3 _ ?_
    refine Aa fun K9 hK9=>?_
    refine Ac ?_
    simp (disch:=omega) only [amL,sA,sF,↓reduceIte]
    refine hK9 _ ?_
    refine Ae ?_
    try simp (disch:=omega) only [amL,↓reduceIte]
    (have e:k=a.entries.length:=by omega); subst e; rw [List.take_length]
def Ab4 (i d:Int):Int:=if d≤0 then 0 else (d * i+9999) / 10000
theorem Ae3 {d i:Int} (h1:0≤d) (h2:d≤1000000000000) (h3:0≤i) (h4:i≤1000):0≤d * i∧d * i≤1000000000000000:=by
 refine ⟨Int.mul_nonneg h1 h3,?_⟩
 have:=Int.mul_le_mul h2 h4 h3 (by omega)
 omega
section
variable {α:Type} {p:α→Bool} {l:List α} {k:Nat} {d:α}
theorem Akp (hk:k < l.length) (h:(l.take k).all p=true) (hp:p (l.getD k d)=true):(l.take (k+1)).all p=true:=by
 rw [List.take_add_one,List.all_append,h]
 simp [hk,List.getD] at hp ⊢
 exact hp
theorem Kb (hk:k < l.length) (hp:p (l.getD k d)=false):l.all p=false:=by
 have:l.getD k d ∈ l:=by rw [← List.getElem_eq_getD (h:=hk)]; exact List.getElem_mem _
 cases h:l.all p with
 | false=>rfl
 | true=>rw [List.all_eq_true] at h; rw [h _ this] at hp; cases hp
theorem D0 (hk:l.length≤k) (h:(l.take k).all p=true):l.all p=true:=by rwa [List.take_of_length_le hk] at h
theorem Gi (hk:k < l.length):l.drop k=l.getD k d :: l.drop (k+1):=by
 rw [List.drop_eq_getElem_cons hk,List.getElem_eq_getD d]
end
abbrev cA (a:Acc):List AV:=[i64 a.last,i64 a.interest,i64 a.bond,i64 a.purse,.p (.sl (a.rates.map F2)),.p (.sl (a.entries.map Lb))]
def Aom:List Fi→Int→Option Int
 | [],_=>none
 | r :: l,d=>if r.day=d then some r.pence else Aom l d
def Abu (l:List Fi):Nat→Int
 | 0=>0
 | x+1=>(Aom l x).getD (Abu l x)
theorem N9 (k:Nat):((k:Int) - 1).toNat=k - 1:=by omega
def Fh (last:Int):Int→List Fi→Bool
  | _,[]=>true
  | prev,r :: l=>inB r.day 0 last&&(inB r.pence 0 100&&(decide (prev < r.day)&&Fh last r.day l))
def Me (l:List Fi) (k:Nat):Int:=if k=0 then -1 else (J4 l (k - 1)).day
theorem Uw {last:Int} {l:List Fi} {k:Nat} (h:k < l.length):Fh last (Me l k) (l.drop k)=(inB (J4 l k).day 0 last&&(inB (J4 l k).pence 0 100&&(decide (Me l k < (J4 l k).day)&&Fh last (Me l (k+1)) (l.drop (k+1))))):=by
  rw [Gi (d:=default) h]; rfl
theorem Cg {last p:Int} {l:List Fi} {k:Nat} (h:l.length≤k):Fh last p (l.drop k)=true:=by rw [List.drop_of_length_le h]; rfl
def Aq (a:Acc):Int:=
  if 4 < a.rates.length∨8 < a.entries.length then 3
  else if (inB a.last 0 11&&(inB a.interest 0 200&&(inB a.bond 0 100000&&inB a.purse 0 100000)))=false then 1
  else if Fh a.last (-1) a.rates=false then 1
  else if a.entries.all (Cb a.last)=false then 1
  else if 1000 < Lc a.entries then 3 else 0
theorem Gs {last:Int} {e:Bo} (h:Cb last e=true):0≤e.lo∧e.lo≤e.hi∧e.hi≤50:=by
  unfold Cb at h
  simp only [inB,Bool.and_eq_true,decide_eq_true_eq] at h
  obtain ⟨_,h⟩:=h
  split at h
  · simp at h; omega
  · split at h
    · simp at h; omega
    · split at h
      · simp at h; omega
      · split at h
        · simp at h; omega
        · simp at h
theorem Lh {last:Int} {l:List Bo} (hl:l.length≤11) (h:l.all (Cb last)=true):Rv l:=by
  refine ⟨hl,fun k hk=>Gs (last:=last) ?_⟩
  rw [List.all_eq_true] at h
  apply h
  show l.getD k default ∈ l
  rw [← List.getElem_eq_getD (h:=hk)]; exact List.getElem_mem _
theorem Abr {last:Int} {l:List Fi} {k:Nat} {R:Bool} (h:k < l.length) (h1:inB (J4 l k).day 0 last=true) (h2:inB (J4 l k).pence 0 100=true) (h3:0 < k→¬ (J4 l k).day≤(J4 l (k - 1)).day)
    (hr:Fh last (Me l k) (l.drop k)=R):Fh last (Me l (k+1)) (l.drop (k+1))=R:=by
  rw [Uw h,h1,h2] at hr
  have:Me l k < (J4 l k).day:=by
    unfold Me
    split
    · have h0:=h1; simp only [inB,Bool.and_eq_true,decide_eq_true_eq] at h0; omega
    · have:=h3 (by omega); omega
  rw [decide_eq_true this,Bool.true_and,Bool.true_and,Bool.true_and] at hr
  exact hr
theorem Hs {last:Int} {l:List Fi} {k:Nat} {R:Bool} (h:k < l.length) (hb:inB (J4 l k).day 0 last=false∨inB (J4 l k).pence 0 100=false∨(0 < k∧(J4 l k).day≤(J4 l (k - 1)).day))
    (hr:Fh last (Me l k) (l.drop k)=R):R=false:=by
  rw [Uw h] at hr
  rcases hb with hb | hb | ⟨hb,hc⟩
  · rw [← hr,hb]; rfl
  · rw [← hr,hb]; simp only [Bool.false_and,Bool.and_false]
  · have:¬ Me l k < (J4 l k).day:=by
      unfold Me
      rw [if_neg (by omega)]; omega
    rw [← hr,decide_eq_false this]; simp only [Bool.false_and,Bool.and_false]
theorem c61 (a:Acc) (hl1:a.rates.length < 1000000) (hl2:a.entries.length < 1000000):Bf Try.prog 20 [avA a] (i64 (Aq a)):=by
  refine Au (v:=[]) (q:=[]) (N:=102) (rs:=[.tmp 2]) Try.func20 rfl rfl rfl rfl rfl ?_
  refine Aa fun K1 hK1=>?_
  refine Ac ?_
  simp (disch:=omega) only [amL,sA,↓reduceIte]
  refine hK1 _ ?_
  refine Aa fun K2 hK2=>?_
  refine Aa fun K3 hK3=>?_
  refine Ac ?_
  simp (disch:=omega) only [amL,amT,sA,sF,↓reduceIte,reduceCtorEq]
  repeat' first | (refine B2 (fun h=>?_) (fun h=>?_) <;> simp (disch:=omega) only [h,amL,amT,sA,sF,↓reduceIte,reduceCtorEq]) | (refine Ba (fun h=>?_) (fun h=>?_) <;> simp (disch:=omega) only [h,Dx,B9,N9,amL,amT,sA,sB,sC,sD,sE,sF,sG,sH,sI,sJ,sK,sL,sM,sN,sO,↓reduceIte,reduceCtorEq])
  all_goals
   skip
   refine hK3 _ ?_
   refine Ag rfl (fun h=>?_) (fun h=>?_)
   ·first
    | exact Bool.noConfusion h
    |skip
     try simp only [decide_eq_true_eq] at h
     refine Aa fun K4 hK4=>?_
     refine Ac ?_
     simp (disch:=omega) only [amL,sA]
     refine hK4 _ ?_
     refine Ae ?_
     try simp (disch:=omega) only [amL,↓reduceIte]
     all_goals first | rw [Aq,if_pos (by omega)]; done | rw [Aq,if_neg (by omega),if_neg (by simp_all),if_neg (by rw [← hr,Cg (by omega)]; simp),if_neg (by rw [D0 (by omega) hn]; simp),if_pos h]; done | rw [Aq,if_neg (by omega),if_neg (by simp_all),if_neg (by rw [← hr,Cg (by omega)]; simp),if_neg (by rw [D0 (by omega) hn]; simp),if_neg h]; done | rw [Aq,if_neg (by omega),if_neg (by simp_all),if_neg (by rw [← hr,Cg (by omega)]; simp),if_pos (Kb (d:=default) (k:=j) (by omega) h)]; done | rw [Aq,if_neg (by omega),if_neg (by simp_all),if_pos (Hs (k:=k) (by omega) (by first | (left; simp_all; done) | (right; left; simp_all; done) | (right; right; omega)) hr)]; done | rw [Aq,if_neg (by omega),if_pos (by simp_all)]; done
   ·first
    | exact Bool.noConfusion h
    |skip
     try simp only [decide_eq_false_iff_not] at h
     refine Aj ?_
     refine hK2 _ ?_
     refine Aa fun K5 hK5=>?_
     refine Aa fun K6 hK6=>?_
     refine Ac ?_
     simp (disch:=omega) only [amL,amT,sA,sF,↓reduceIte,reduceCtorEq]
     repeat' first | (refine B2 (fun h=>?_) (fun h=>?_) <;> simp (disch:=omega) only [h,Dx,B9,N9,amL,amT,sA,sB,sC,sD,sE,sF,sG,sH,sI,sJ,sK,sL,sM,sN,sO,↓reduceIte,reduceCtorEq]) | (refine Ba (fun h=>?_) (fun h=>?_) <;> simp (disch:=omega) only [h,amL,amT,sA,sF,↓reduceIte,reduceCtorEq]) | (refine Am (by kernel_rfl) rfl (c48 _ _ _) (by first | exact .inl rfl | exact .inr (.inl rfl)) ?_ ; simp (disch:=omega) only [amL,sA,sF,↓reduceIte])
     all_goals
      skip
      refine hK6 _ ?_
      refine Ag rfl (fun h=>?_) (fun h=>?_)
      ·first
       | exact Bool.noConfusion h
       |skip
        try simp only [Bool.not_eq_true'] at h
        refine Aa fun K7 hK7=>?_
        refine Ac ?_
        simp (disch:=omega) only [amL,sA]
        refine hK7 _ ?_
        refine Ae ?_
        try simp (disch:=omega) only [amL,↓reduceIte]
        all_goals first | rw [Aq,if_pos (by omega)]; done | rw [Aq,if_neg (by omega),if_neg (by simp_all),if_neg (by rw [← hr,Cg (by omega)]; simp),if_neg (by rw [D0 (by omega) hn]; simp),if_pos h]; done | rw [Aq,if_neg (by omega),if_neg (by simp_all),if_neg (by rw [← hr,Cg (by omega)]; simp),if_neg (by rw [D0 (by omega) hn]; simp),if_neg h]; done | rw [Aq,if_neg (by omega),if_neg (by simp_all),if_neg (by rw [← hr,Cg (by omega)]; simp),if_pos (Kb (d:=default) (k:=j) (by omega) h)]; done | rw [Aq,if_neg (by omega),if_neg (by simp_all),if_pos (Hs (k:=k) (by omega) (by first | (left; simp_all; done) | (right; left; simp_all; done) | (right; right; omega)) hr)]; done | rw [Aq,if_neg (by omega),if_pos (by simp_all)]; done
      ·first
       | exact Bool.noConfusion h
       |skip
        try simp only [Bool.not_eq_false'] at h
        refine Aj ?_
        refine hK5 _ ?_
        refine Aa fun K8 hK8=>?_
        refine Aa fun K9 hK9=>?_
        refine Ac ?_
        simp (disch:=omega) only [amL,sA]
        refine hK9 _ ?_
        refine Ai ?_
        skip
        refine A7 (α:=Nat) (fun k=>⟨T [(1,.ptr 1 0),(3,i64 k)],O [(1,.cells (cA a))]⟩) (fun k=>a.rates.length - k) (fun k=>k≤a.rates.length∧Fh a.last (Me a.rates k) (a.rates.drop k)=Fh a.last (-1) a.rates) 0 ?_ ?_ (fun k hx10 K10 hK10=>?_)
        · simp [Me]
        · refine B7 ?_ ?_ ?_ ?_ <;> (try simp (disch:=omega) only [amL,sF,↓reduceIte])
        obtain ⟨hk,hr⟩:=hx10
        refine Aa fun K11 hK11=>?_
        refine Aa fun K12 hK12=>?_
        refine Ac ?_
        simp (disch:=omega) only [amL,amT,sA,sF,↓reduceIte,reduceCtorEq]
        refine hK12 _ ?_
        refine Ag rfl (fun h=>?_) (fun h=>?_)
        ·first
         | exact Bool.noConfusion h
         |skip
          try simp only [decide_eq_true_eq] at h
          refine Aj ?_
          refine hK11 _ ?_
          refine Aa fun K13 hK13=>?_
          refine Ai ?_
          refine Aa fun K14 hK14=>?_
          refine Bk (by kernel_rfl) (by kernel_rfl) ?_
          simp (disch:=omega) only [Dx,amL,amT,sA,sB,sF,↓reduceIte,reduceCtorEq]
          repeat' first | (refine B2 (fun h=>?_) (fun h=>?_) <;> simp (disch:=omega) only [h,Dx,N9,amL,amT,sA,sB,sF,↓reduceIte,reduceCtorEq]) | (refine Ba (fun h=>?_) (fun h=>?_) <;> simp (disch:=omega) only [h,Dx,amL,amT,sA,sB,sF,↓reduceIte,reduceCtorEq]) | (refine Am (by kernel_rfl) rfl (c48 _ _ _) (by first | exact .inl rfl | exact .inr (.inl rfl)) ?_ ; simp (disch:=omega) only [amL,sA,sF,↓reduceIte])
          all_goals
           skip
           refine hK14 _ ?_
           refine Ag rfl (fun h=>?_) (fun h=>?_)
           ·first
            | exact Bool.noConfusion h
            |skip
             try simp only [decide_eq_true_eq] at h
             refine Aa fun K15 hK15=>?_
             refine Ac ?_
             simp (disch:=omega) only [amL,sA]
             refine hK15 _ ?_
             refine Ae ?_
             try simp (disch:=omega) only [amL,↓reduceIte]
             all_goals first | rw [Aq,if_pos (by omega)]; done | rw [Aq,if_neg (by omega),if_neg (by simp_all),if_neg (by rw [← hr,Cg (by omega)]; simp),if_neg (by rw [D0 (by omega) hn]; simp),if_pos h]; done | rw [Aq,if_neg (by omega),if_neg (by simp_all),if_neg (by rw [← hr,Cg (by omega)]; simp),if_neg (by rw [D0 (by omega) hn]; simp),if_neg h]; done | rw [Aq,if_neg (by omega),if_neg (by simp_all),if_neg (by rw [← hr,Cg (by omega)]; simp),if_pos (Kb (d:=default) (k:=j) (by omega) h)]; done | rw [Aq,if_neg (by omega),if_neg (by simp_all),if_pos (Hs (k:=k) (by omega) (by first | (left; simp_all; done) | (right; left; simp_all; done) | (right; right; omega)) hr)]; done | rw [Aq,if_neg (by omega),if_pos (by simp_all)]; done
           ·first
            | exact Bool.noConfusion h
            |skip
             try simp only [decide_eq_false_iff_not] at h
             refine Aj ?_
             refine hK13 _ ?_
             refine Ac ?_
             simp (disch:=omega) only [amL,amT,sA,sF,↓reduceIte]
             refine hK10 (k+1) _ ?_ ?_ (B7 ?_ ?_ ?_ ?_)
             all_goals (try simp (disch:=omega) only [amL,sF,↓reduceIte])
             all_goals first | omega | exact ⟨by omega,Abr (by omega) (by simp_all) (by simp_all) (fun _=>by omega) hr⟩
        ·first
         | exact Bool.noConfusion h
         |skip
          try simp only [decide_eq_false_iff_not] at h
          refine Bg ?_
          refine hK8 _ ?_
          refine Aa fun K16 hK16=>?_
          refine Aa fun K17 hK17=>?_
          refine Ac ?_
          simp (disch:=omega) only [amL,sA]
          refine hK17 _ ?_
          refine Ai ?_
          skip
          refine A7 (α:=Nat) (fun j=>⟨T [(1,.ptr 1 0),(4,i64 j)],O [(1,.cells (cA a))]⟩) (fun j=>a.entries.length - j) (fun j=>j≤a.entries.length∧(a.entries.take j).all (Cb a.last)=true) 0 ?_ ?_ (fun j hx18 K18 hK18=>?_)
          · simp
          · refine B7 ?_ ?_ ?_ ?_ <;> (try simp (disch:=omega) only [amL,sF,↓reduceIte])
          obtain ⟨hj,hn⟩:=hx18
          refine Aa fun K19 hK19=>?_
          refine Aa fun K20 hK20=>?_
          refine Ac ?_
          simp (disch:=omega) only [amL,amT,sA,sF,↓reduceIte,reduceCtorEq]
          refine hK20 _ ?_
          refine Ag rfl (fun h=>?_) (fun h=>?_)
          ·first
           | exact Bool.noConfusion h
           |skip
            try simp only [decide_eq_true_eq] at h
            refine Aj ?_
            refine hK19 _ ?_
            refine Aa fun K21 hK21=>?_
            refine Ai ?_
            refine Aa fun K22 hK22=>?_
            refine Bk (by kernel_rfl) (by kernel_rfl) ?_
            simp (disch:=omega) only [B9,amL,amT,sA,sB,sF,↓reduceIte,reduceCtorEq]
            repeat' first | (refine Am (by kernel_rfl) rfl (c84 a _) (by first | exact .inl rfl | exact .inr (.inl rfl)) ?_ ; simp (disch:=omega) only [amL,sA,↓reduceIte])
            refine hK22 _ ?_
            refine Ag rfl (fun h=>?_) (fun h=>?_)
            ·first
             | exact Bool.noConfusion h
             |skip
              try simp only [Bool.not_eq_true'] at h
              refine Aa fun K23 hK23=>?_
              refine Ac ?_
              simp (disch:=omega) only [amL,sA]
              refine hK23 _ ?_
              refine Ae ?_
              try simp (disch:=omega) only [amL,↓reduceIte]
              all_goals first | rw [Aq,if_pos (by omega)]; done | rw [Aq,if_neg (by omega),if_neg (by simp_all),if_neg (by rw [← hr,Cg (by omega)]; simp),if_neg (by rw [D0 (by omega) hn]; simp),if_pos h]; done | rw [Aq,if_neg (by omega),if_neg (by simp_all),if_neg (by rw [← hr,Cg (by omega)]; simp),if_neg (by rw [D0 (by omega) hn]; simp),if_neg h]; done | rw [Aq,if_neg (by omega),if_neg (by simp_all),if_neg (by rw [← hr,Cg (by omega)]; simp),if_pos (Kb (d:=default) (k:=j) (by omega) h)]; done | rw [Aq,if_neg (by omega),if_neg (by simp_all),if_pos (Hs (k:=k) (by omega) (by first | (left; simp_all; done) | (right; left; simp_all; done) | (right; right; omega)) hr)]; done | rw [Aq,if_neg (by omega),if_pos (by simp_all)]; done
            ·first
             | exact Bool.noConfusion h
             |skip
              try simp only [Bool.not_eq_false'] at h
              refine Aj ?_
              refine hK21 _ ?_
              refine Ac ?_
              simp (disch:=omega) only [amL,amT,sA,sF,↓reduceIte]
              refine hK18 (j+1) _ ?_ ?_ (B7 ?_ ?_ ?_ ?_)
              all_goals (try simp (disch:=omega) only [amL,sF,↓reduceIte])
              all_goals first | omega | exact ⟨by omega,Akp (d:=default) (by omega) hn h⟩
          ·first
           | exact Bool.noConfusion h
           |skip
            try simp only [decide_eq_false_iff_not] at h
            refine Bg ?_
            refine hK16 _ ?_
            refine Aa fun K24 hK24=>?_
            refine Aa fun K25 hK25=>?_
            refine Ac ?_
            have hsm:=Lh (by omega) (D0 (by omega) hn)
            simp (disch:=omega) only [amL,amT,sA,sB,sF,↓reduceIte]
            repeat' first | (refine Am (by kernel_rfl) rfl (c50 a hsm) (by first | exact .inl rfl | exact .inr (.inl rfl)) ?_ ; simp (disch:=omega) only [amL,amT,↓reduceIte])
            refine hK25 _ ?_
            refine Ag rfl (fun h=>?_) (fun h=>?_)
            ·first
             | exact Bool.noConfusion h
             |skip
              try simp only [decide_eq_true_eq] at h
              refine Aa fun K26 hK26=>?_
              refine Ac ?_
              simp (disch:=omega) only [amL,sA]
              refine hK26 _ ?_
              refine Ae ?_
              try simp (disch:=omega) only [amL,↓reduceIte]
              all_goals first | rw [Aq,if_pos (by omega)]; done | rw [Aq,if_neg (by omega),if_neg (by simp_all),if_neg (by rw [← hr,Cg (by omega)]; simp),if_neg (by rw [D0 (by omega) hn]; simp),if_pos h]; done | rw [Aq,if_neg (by omega),if_neg (by simp_all),if_neg (by rw [← hr,Cg (by omega)]; simp),if_neg (by rw [D0 (by omega) hn]; simp),if_neg h]; done | rw [Aq,if_neg (by omega),if_neg (by simp_all),if_neg (by rw [← hr,Cg (by omega)]; simp),if_pos (Kb (d:=default) (k:=j) (by omega) h)]; done | rw [Aq,if_neg (by omega),if_neg (by simp_all),if_pos (Hs (k:=k) (by omega) (by first | (left; simp_all; done) | (right; left; simp_all; done) | (right; right; omega)) hr)]; done | rw [Aq,if_neg (by omega),if_pos (by simp_all)]; done
            ·first
             | exact Bool.noConfusion h
             |skip
              try simp only [decide_eq_false_iff_not] at h
              refine Aj ?_
              refine hK24 _ ?_
              refine Aa fun K27 hK27=>?_
              refine Ac ?_
              simp (disch:=omega) only [amL,sA]
              refine hK27 _ ?_
              refine Ae ?_
              try simp (disch:=omega) only [amL,↓reduceIte]
              all_goals first | rw [Aq,if_pos (by omega)]; done | rw [Aq,if_neg (by omega),if_neg (by simp_all),if_neg (by rw [← hr,Cg (by omega)]; simp),if_neg (by rw [D0 (by omega) hn]; simp),if_pos h]; done | rw [Aq,if_neg (by omega),if_neg (by simp_all),if_neg (by rw [← hr,Cg (by omega)]; simp),if_neg (by rw [D0 (by omega) hn]; simp),if_neg h]; done | rw [Aq,if_neg (by omega),if_neg (by simp_all),if_neg (by rw [← hr,Cg (by omega)]; simp),if_pos (Kb (d:=default) (k:=j) (by omega) h)]; done | rw [Aq,if_neg (by omega),if_neg (by simp_all),if_pos (Hs (k:=k) (by omega) (by first | (left; simp_all; done) | (right; left; simp_all; done) | (right; right; omega)) hr)]; done | rw [Aq,if_neg (by omega),if_pos (by simp_all)]; done
end AM.Dty
end
/- The program's small functions: ranges, entries, rates. -/
section
namespace AM.Dty
open Go AM AM.Duty AM.Try Go.Proofs
open Nat renaming reduceLT→sA,reduceAdd→sB,reduceMul→sC,reduceSub→sD,reduceLeDiff→sE,reduceEqDiff→sF,reduceBEq→sG
open Int renaming reduceAdd→sH,reduceSub→sI,reduceMul→sJ,reduceLT→sK,reduceLE→sL,reduceNeg→sM,reduceToNat→sN,reduceEq→sO
set_option maxHeartbeats 16000000
theorem ints54:Nf Try.prog 90 2:=Nn (by kernel_rfl)
theorem Yh {a b:Int}:Ck [i64 a,i64 b]=some [a,b]:=rfl
theorem Aqj {a b:Int} (ha:inR a=true) (hb:inR b=true):Gd Try.prog .eql 90 (some [a,b]) (some [0,0])=some (.pure (bl (decide (a=0)&&decide (b=0)))):=by
  rw [Ht (a:=[a,b]) (b:=[0,0]) ints54 rfl (by simp [ha,hb]) (by decide)]
  simp
theorem c63 (n lo hi:Int):Bf Try.prog 119 [i64 n,i64 lo,i64 hi] (bl (inB n lo hi)):=by
  refine Au (v:=[]) (q:=[]) (N:=15) (rs:=[.tmp 6]) Try.func119 rfl rfl rfl rfl rfl ?_
  refine Aa fun K1 hK1=>?_
  refine Ac ?_
  simp (disch:=omega) only [amL,sA,sB]
  refine hK1 _ ?_
  refine Aa fun K2 hK2=>?_
  refine Ac ?_
  simp (disch:=omega) only [amL,amT,sA,sF,↓reduceIte,reduceCtorEq]
  repeat' first | (refine B2 (fun h=>?_) (fun h=>?_) <;> simp (disch:=omega) only [h,amL,amT,sA,sF,↓reduceIte,reduceCtorEq]) | (refine Ba (fun h=>?_) (fun h=>?_) <;> simp (disch:=omega) only [h,amL,amT,sA,sB,sC,sD,sE,sF,sG,sH,sI,sJ,sK,sL,sM,sN,sO,↓reduceIte,reduceCtorEq])
  all_goals
   skip
   refine hK2 _ ?_
   refine Ae ?_
   try simp (disch:=omega) only [amL,↓reduceIte]
   simp [inB,h]
theorem c66 (lo hi:Int) (h1:-9223372036854775808≤hi - lo) (h2:hi - lo < 9223372036854775807):Bf Try.prog 122 [.agg [i64 lo,i64 hi]] (i64 (hi - lo+1)):=by
  refine Au (v:=[]) (q:=[]) (N:=9) (rs:=[.tmp 2]) Try.func122 rfl rfl rfl rfl rfl ?_
  refine Aa fun K1 hK1=>?_
  refine Ac ?_
  simp (disch:=omega) only [amL,sA,↓reduceIte]
  refine hK1 _ ?_
  refine Aa fun K2 hK2=>?_
  refine Ac ?_
  simp (disch:=omega) only [amL,amT,sA,sF,↓reduceIte,reduceCtorEq]
  refine hK2 _ ?_
  refine Ae ?_
  try simp (disch:=omega) only [amL,↓reduceIte]
  skip
def P0 (e:Bo):Bool:=
  if e.kind=0 then decide (0≤e.lo)&&(decide (e.lo≤e.hi)&&(decide (e.hi≤50)&&decide (e.pence=0)))
   else if e.kind=1 then decide (e.lo=0)&&(decide (e.hi=0)&&inB e.pence 1 100000)
   else if e.kind=2 then inB e.lo 1 50&&(decide (e.hi=e.lo)&&decide (e.pence=0))
   else if e.kind=3 then decide (e.lo=0)&&(decide (e.hi=0)&&inB e.pence (-100000) 100000)
   else false
theorem Acx (last:Int) (e:Bo):Cb last e=(inB e.day 0 last&&P0 e):=rfl
theorem c85 (e:Bo) (h1:inR e.lo=true) (h2:inR e.hi=true):Bf Try.prog 163 [avE e] (bl (P0 e)):=by
  refine Au (v:=[]) (q:=[]) (N:=72) (rs:=[.tmp 2]) Try.func163 rfl rfl rfl rfl rfl ?_
  have hz:=Aqj h1 h2
  refine Aa fun K1 hK1=>?_
  refine Ac ?_
  simp (disch:=omega) only [amL,sA,↓reduceIte]
  refine hK1 _ ?_
  refine Aa fun K2 hK2=>?_
  refine Ac ?_
  simp (disch:=omega) only [hz,Mj,amL,amT,sA,sB,sE,sF,↓reduceIte,reduceCtorEq]
  refine hK2 _ ?_
  refine Aa fun K3 hK3=>?_
  refine Aa fun K4 hK4=>?_
  refine Ac ?_
  simp (disch:=omega) only [amL,amT,sA,sF,↓reduceIte,reduceCtorEq]
  refine hK4 _ ?_
  refine Ai ?_
  refine Aa fun K5 hK5=>?_
  refine Ac ?_
  simp (disch:=omega) only [amL,amT,sA,↓reduceIte]
  refine hK5 _ ?_
  refine Ag rfl (fun h=>?_) (fun h=>?_)
  ·first
   | exact Bool.noConfusion h
   |skip
    try simp only [decide_eq_true_eq] at h
    refine Aa fun K6 hK6=>?_
    refine Ac ?_
    simp (disch:=omega) only [amL,amT,sA,sF,↓reduceIte,reduceCtorEq]
    repeat' first | (refine B2 (fun h=>?_) (fun h=>?_) <;> simp (disch:=omega) only [h,amL,amT,sA,sB,sF,↓reduceIte,reduceCtorEq]) | (refine Ba (fun h=>?_) (fun h=>?_) <;> simp (disch:=omega) only [h,hz,Yh,Mj,amL,amT,sA,sB,sC,sD,sE,sF,sG,sH,sI,sJ,sK,sL,sM,sN,sO,↓reduceIte,reduceCtorEq])
    all_goals
     skip
     refine hK6 _ ?_
     refine Ae ?_
     try simp (disch:=omega) only [amL,↓reduceIte]
     all_goals (simp_all [P0] <;> omega)
  ·first
   | exact Bool.noConfusion h
   |skip
    try simp only [decide_eq_false_iff_not] at h
    refine Aa fun K7 hK7=>?_
    refine Ac ?_
    simp (disch:=omega) only [amL,amT,sA,sF,↓reduceIte]
    refine hK7 _ ?_
    refine Ag rfl (fun h=>?_) (fun h=>?_)
    ·first
     | exact Bool.noConfusion h
     |skip
      try simp only [decide_eq_true_eq] at h
      refine Aa fun K8 hK8=>?_
      refine Ac ?_
      simp (disch:=omega) only [amL,sA,sF,↓reduceIte]
      repeat' first | (refine B2 (fun h=>?_) (fun h=>?_) <;> simp (disch:=omega) only [h,hz,Yh,Mj,amL,amT,sA,sB,sC,sD,sE,sF,sG,sH,sI,sJ,sK,sL,sM,sN,sO,↓reduceIte,reduceCtorEq]) | (refine Ba (fun h=>?_) (fun h=>?_) <;> simp (disch:=omega) only [h,amL,amT,sA,sF,↓reduceIte,reduceCtorEq]) | (refine Am (by kernel_rfl) rfl (c63 _ _ _) (by first | exact .inl rfl | exact .inr (.inl rfl)) ?_ ; simp (disch:=omega) only [amL,sA,sF,↓reduceIte])
      all_goals
       skip
       refine hK8 _ ?_
       refine Ae ?_
       try simp (disch:=omega) only [amL,↓reduceIte]
       all_goals (simp_all [P0] <;> omega)
    ·first
     | exact Bool.noConfusion h
     |skip
      try simp only [decide_eq_false_iff_not] at h
      refine Aa fun K9 hK9=>?_
      refine Ac ?_
      simp (disch:=omega) only [amL,amT,sA,sF,↓reduceIte]
      refine hK9 _ ?_
      refine Ag rfl (fun h=>?_) (fun h=>?_)
      ·first
       | exact Bool.noConfusion h
       |skip
        try simp only [decide_eq_true_eq] at h
        refine Aa fun K10 hK10=>?_
        refine Ac ?_
        simp (disch:=omega) only [amL,amT,sA,sB,sF,↓reduceIte,reduceCtorEq]
        repeat' first | (refine B2 (fun h=>?_) (fun h=>?_) <;> simp (disch:=omega) only [h,amL,amT,sA,sF,↓reduceIte,reduceCtorEq]) | (refine Ba (fun h=>?_) (fun h=>?_) <;> simp (disch:=omega) only [h,amL,amT,sA,sF,↓reduceIte,reduceCtorEq]) | (refine Am (by kernel_rfl) rfl (c63 _ _ _) (by first | exact .inl rfl | exact .inr (.inl rfl)) ?_ ; simp (disch:=omega) only [amL,sA,sF,↓reduceIte])
        all_goals
         skip
         refine hK10 _ ?_
         refine Ae ?_
         try simp (disch:=omega) only [amL,↓reduceIte]
         all_goals (simp_all [P0] <;> omega)
      ·first
       | exact Bool.noConfusion h
       |skip
        try simp only [decide_eq_false_iff_not] at h
        refine Aa fun K11 hK11=>?_
        refine Ac ?_
        simp (disch:=omega) only [amL,amT,sA,sF,↓reduceIte]
        refine hK11 _ ?_
        refine Ag rfl (fun h=>?_) (fun h=>?_)
        ·first
         | exact Bool.noConfusion h
         |skip
          try simp only [decide_eq_true_eq] at h
          refine Aa fun K12 hK12=>?_
          refine Ac ?_
          simp (disch:=omega) only [amL,sA,sF,sM,↓reduceIte]
          repeat' first | (refine B2 (fun h=>?_) (fun h=>?_) <;> simp (disch:=omega) only [h,hz,Yh,Mj,amL,amT,sA,sB,sC,sD,sE,sF,sG,sH,sI,sJ,sK,sL,sM,sN,sO,↓reduceIte,reduceCtorEq]) | (refine Ba (fun h=>?_) (fun h=>?_) <;> simp (disch:=omega) only [h,amL,amT,sA,sF,sM,↓reduceIte,reduceCtorEq]) | (refine Am (by kernel_rfl) rfl (c63 _ _ _) (by first | exact .inl rfl | exact .inr (.inl rfl)) ?_ ; simp (disch:=omega) only [amL,sA,sF,sM,↓reduceIte])
          all_goals
           skip
           refine hK12 _ ?_
           refine Ae ?_
           try simp (disch:=omega) only [amL,sM,↓reduceIte]
           all_goals (simp_all [P0] <;> omega)
        ·first
         | exact Bool.noConfusion h
         |skip
          try simp only [decide_eq_false_iff_not] at h
          refine Aj ?_
          refine hK3 _ ?_
          refine Aa fun K13 hK13=>?_
          refine Ac ?_
          simp (disch:=omega) only [amL,sA]
          refine hK13 _ ?_
          refine Ae ?_
          try simp (disch:=omega) only [amL,↓reduceIte]
          all_goals (simp_all [P0] <;> omega)
theorem c62 (a:Acc) (e:Bo) (h1:inR e.lo=true) (h2:inR e.hi=true):Bf Try.prog 118 [avA a,avE e] (bl (Cb a.last e)):=by
  refine Au (v:=[]) (q:=[]) (N:=14) (rs:=[.tmp 4]) Try.func118 rfl rfl rfl rfl rfl ?_
  refine Aa fun K1 hK1=>?_
  refine Ac ?_
  simp (disch:=omega) only [amL,sA,sB,sF,↓reduceIte,reduceCtorEq]
  refine hK1 _ ?_
  refine Aa fun K2 hK2=>?_
  refine Ac ?_
  simp (disch:=omega) only [amL,amT,sA,sF,↓reduceIte,reduceCtorEq]
  repeat' first | (refine B2 (fun h=>?_) (fun h=>?_) <;> simp (disch:=omega) only [h,amL,amT,sA,sB,sC,sD,sE,sF,sG,sH,sI,sJ,sK,sL,sM,sN,sO,↓reduceIte,reduceCtorEq]) | (refine Ba (fun h=>?_) (fun h=>?_) <;> simp (disch:=omega) only [h,amL,amT,sA,sB,sF,↓reduceIte]) | (refine Am (by kernel_rfl) rfl (c63 _ _ _) (by first | exact .inl rfl | exact .inr (.inl rfl)) ?_ ; simp (disch:=omega) only [amL,sA,↓reduceIte]) | (refine Am (by kernel_rfl) rfl (c85 e h1 h2) (by first | exact .inl rfl | exact .inr (.inl rfl)) ?_ ; simp (disch:=omega) only [amL,sA,sF,↓reduceIte])
  all_goals
   skip
   refine hK2 _ ?_
   refine Ae ?_
   try simp (disch:=omega) only [amL,↓reduceIte]
   all_goals simp_all [Acx]
def B5 (day:Int):List Fi→Int→Int
  | [],p=>p
  | r :: l,p=>B5 day l (if r.day≤day then r.pence else p)
theorem Wt {day p:Int} {l:List Fi} {k:Nat} {R:Int} (h:k < l.length) (hr:B5 day (l.drop k) p=R):B5 day (l.drop (k+1)) (if (J4 l k).day≤day then (J4 l k).pence else p)=R:=by
  rw [Gi (d:=default) h] at hr; exact hr
theorem Azq (a:Acc) (day:Int) (hl:a.rates.length < 1000000):Bf Try.prog 220 [avA a,i64 day] (i64 (B5 day a.rates 0)):=by
  refine Au (v:=[]) (q:=[]) (N:=22) (rs:=[.tmp 4]) Try.func220 rfl rfl rfl rfl rfl ?_
  refine Aa fun K1 hK1=>?_
  refine Ac ?_
  simp (disch:=omega) only [amL,sA,sB,↓reduceIte]
  refine hK1 _ ?_
  refine Aa fun K2 hK2=>?_
  refine Aa fun K3 hK3=>?_
  refine Ac ?_
  simp (disch:=omega) only [amL,amT,sA,sF,↓reduceIte,reduceCtorEq]
  refine hK3 _ ?_
  refine Ai ?_
  skip
  refine A7 (α:=Nat × Int) (fun x=>⟨T [(1,i64 day),(8,.p (.sl (a.rates.map F2))),(10,i64 x.1),(9,i64 a.rates.length),(4,i64 x.2)],O []⟩) (fun x=>a.rates.length - x.1) (fun x=>x.1≤a.rates.length∧B5 day (a.rates.drop x.1) x.2=B5 day a.rates 0) (0,0) ?_ ?_ (fun x hx4 K4 hK4=>?_)
  · simp
  · refine B7 ?_ ?_ ?_ ?_ <;> (try simp (disch:=omega) only [amL,sF,↓reduceIte,reduceCtorEq])
  obtain ⟨k,p⟩:=x; dsimp only at hx4 ⊢; obtain ⟨hk,hr⟩:=hx4
  refine Aa fun K5 hK5=>?_
  refine Ac ?_
  simp (disch:=omega) only [amL,amT,sA,sF,↓reduceIte]
  refine hK5 _ ?_
  refine Aa fun K6 hK6=>?_
  refine Ag rfl (fun h=>?_) (fun h=>?_)
  ·first
   | exact Bool.noConfusion h
   |skip
    try simp only [decide_eq_true_eq] at h
    refine Aj ?_
    refine hK6 _ ?_
    refine Aa fun K7 hK7=>?_
    refine Ai ?_
    refine Aa fun K8 hK8=>?_
    refine Ac ?_
    simp (disch:=omega) only [Dx,amL,amT,sA,sB,sF,↓reduceIte]
    refine hK8 _ ?_
    refine Aa fun K9 hK9=>?_
    refine Ac ?_
    simp (disch:=omega) only [amL,amT,sA,sF,↓reduceIte,reduceCtorEq]
    refine hK9 _ ?_
    refine Ag rfl (fun h=>?_) (fun h=>?_)
    ·first
     | exact Bool.noConfusion h
     |skip
      try simp only [decide_eq_true_eq] at h
      refine Ac ?_
      simp (disch:=omega) only [amL,amT,sA,sF,↓reduceIte,reduceCtorEq]
      refine hK7 _ ?_
      refine Ac ?_
      simp (disch:=omega) only [amL,amT,sA,sF,↓reduceIte]
      refine hK4 (k+1,if (J4 a.rates k).day≤day then (J4 a.rates k).pence else p) _ ?_ ?_ (B7 ?_ ?_ ?_ ?_)
      all_goals (try simp (disch:=omega) only [amL,sF,↓reduceIte])
      all_goals first | omega | (have hx:=Wt (k:=k) (by omega) hr; (first | rw [if_pos h] at hx | rw [if_neg h] at hx); exact ⟨by omega,hx⟩) | (simp [h]; done) | skip
    ·first
     | exact Bool.noConfusion h
     |skip
      try simp only [decide_eq_false_iff_not] at h
      refine Aj ?_
      refine hK7 _ ?_
      refine Ac ?_
      simp (disch:=omega) only [amL,amT,sA,sF,↓reduceIte]
      refine hK4 (k+1,if (J4 a.rates k).day≤day then (J4 a.rates k).pence else p) _ ?_ ?_ (B7 ?_ ?_ ?_ ?_)
      all_goals (try simp (disch:=omega) only [amL,sF,↓reduceIte])
      all_goals first | omega | (have hx:=Wt (k:=k) (by omega) hr; (first | rw [if_pos h] at hx | rw [if_neg h] at hx); exact ⟨by omega,hx⟩) | (simp [h]; done) | skip
  ·first
   | exact Bool.noConfusion h
   |skip
    try simp only [decide_eq_false_iff_not] at h
    refine Bg ?_
    refine hK2 _ ?_
    refine Aa fun K10 hK10=>?_
    refine Ac ?_
    simp (disch:=omega) only [amL,sA,sF,↓reduceIte]
    refine hK10 _ ?_
    refine Ae ?_
    try simp (disch:=omega) only [amL,↓reduceIte]
    rw [List.drop_of_length_le (by omega)] at hr; rw [← hr]; rfl
theorem Ap5 {f:Fn} {n m k:Nat} (h:(AV.fn f [] [.ptr n 0,.ptr m 0]).clean k=false):k=n∨k=m:=by
  by_cases e:k=n
  · exact .inl e
  · by_cases e2:k=m
    · exact .inr e2
    · simp [AV.clean,AV.clean.cleanL,Ne.symm e,Ne.symm e2] at h
theorem Agh {k:Nat} {n:Int}:(AO.cells [i64 n]).clean k=true:=rfl
theorem H8 {k:Nat} {a:Acc}:(AO.cells (cA a)).clean k=true:=rfl
def st2 (a:Acc) (nl na:Nat) (s:Int) (os:Nat→Option AO):Prop:=os nl=some (.cells [i64 s])∧os na=some (.cells (cA a))
theorem Apu {α:Type} {f:FuncId} {a:Acc} {nl na:Nat} {arg:α→AV} {l:List α} {step:Int→α→Int × Bool}
    (hc:∀ s x os bd,x ∈ l→nl≠na→nl < bd→na < bd→os nl=some (.cells [i64 s])→os na=some (.cells (cA a))→(Hp os).closed→Bm Try.prog bd (.fn (.func f) [] [.ptr nl 0,.ptr na 0]) [arg x] os fun res os'=>res=bl (step s x).2∧os'=upd os nl (some (.cells [i64 (step s x).1]))) (hne:nl≠na) :
    Cv (.fn (.func f) [] [.ptr nl 0,.ptr na 0]) (fun n=>n=nl∨n=na) arg l (st2 a nl na) step where
  live s os h:=by
    rw [Cl,A8,Ax,Ax,A8,Bz,Bz,h.1,h.2]; exact ⟨trivial,rfl,rfl,trivial⟩
  stable s os os' h he:=⟨(he nl (.inl rfl)).trans h.1,(he na (.inr rfl)).trans h.2⟩
  foot s os n h hn:=by
    rcases hn with rfl | rfl
    · exact ⟨_,h.1,fun m hm=>by rw [Agh] at hm; cases hm⟩
    · exact ⟨_,h.2,fun m hm=>by rw [H8] at hm; cases hm⟩
  call s x os bd hx h hcl:=by
    intro hfree
    have h1:=Al hfree h.1
    have h2:=Al hfree h.2
    refine Bm.mono (hc s x os bd hx hne h1 h2 h.1 h.2 hcl) ?_ hfree
    rintro r os' ⟨rfl,rfl⟩
    exact ⟨rfl,⟨Ak,(Ad (Ne.symm hne)).trans h.2⟩,fun n hn=>Ad (fun e=>hn (.inl e))⟩
theorem Qe {os:Nat→Option AO} {n m:Nat} {x y:Option AO} (hm:os m=none) (hne:n≠m):Sub (upd os n x) (upd (upd os m y) n x):=fun k=>by
  by_cases e:k=n
  · subst e; right; rw [Ak,Ak]
  · rw [Ad e,Ad e]
    by_cases e2:k=m
    · subst e2; left; exact hm
    · right; rw [Ad e2]
def G9 (last:Int) (s:Int) (r:Fi):Int × Bool:=(r.day,inB r.day (IntKind.wrap .i64 (s+1)) last&&inB r.pence 0 100)
theorem u87 {a:Acc} {nl na:Nat} (s:Int) (x:Fi) (os:Nat→Option AO) (bd:Nat) (_:nl≠na) (h1:nl < bd) (h2:na < bd) (hl:os nl=some (.cells [i64 s])) (ha:os na=some (.cells (cA a))) (hcl0:(Hp os).closed) :
    Bm Try.prog bd (.fn (.func 165) [] [.ptr nl 0,.ptr na 0]) [.agg [i64 x.day,i64 x.pence]] os fun res os'=>res=bl (G9 a.last s x).2∧os'=upd os nl (some (.cells [i64 (G9 a.last s x).1])):=by
  refine Bn (v:=[]) (q:=[]) (N:=21) (rs:=[.tmp 4]) Try.func165 rfl (by kernel_rfl) rfl rfl (fun hcl hfree=>?_)
  have hfr0:∀ k,os (bd+k)=none:=fun k=>hfree _ (by omega)
  refine Aa fun K1 hK1=>?_
  refine Ac ?_
  simp (disch:=omega) only [hfr0,amL,sA,sB,↓reduceIte]
  refine hK1 _ ?_
  refine Aa fun K2 hK2=>?_
  refine Ac ?_
  simp (disch:=omega) only [hl,ha,Ad,amL,amT,sA,sF,↓reduceIte,reduceCtorEq]
  repeat' first | (refine B2 (fun h=>?_) (fun h=>?_) <;> simp (disch:=omega) only [h,hl,ha,hfr0,Ad,amL,amT,sA,sB,sC,sD,sE,sF,sG,sH,sI,sJ,sK,sL,sM,sN,sO,↓reduceIte,reduceCtorEq]) | (refine Ba (fun h=>?_) (fun h=>?_) <;> simp (disch:=omega) only [h,amL,amT,sA,sF,↓reduceIte,reduceCtorEq]) | (refine Am (by kernel_rfl) rfl (c63 _ _ _) (by first | exact .inl rfl | exact .inr (.inl rfl)) ?_ ; simp (disch:=omega) only [amL,sA,sF,↓reduceIte])
  all_goals
   skip
   refine hK2 _ ?_
   refine Aa fun K3 hK3=>?_
   refine Ac ?_
   simp (disch:=omega) only [hl,Ad,amL,amT,sA,sF,↓reduceIte,reduceCtorEq]
   refine hK3 _ ?_
   refine Aa fun K4 hK4=>?_
   refine Ac ?_
   simp (disch:=omega) only [amL,sA,sF,↓reduceIte]
   refine hK4 _ ?_
   refine Ae ?_
   try simp (disch:=omega) only [amL]
   refine Az (res:=bl _) (upd os nl (some (.cells [i64 x.day]))) (by simp (disch:=omega) only [amL,↓reduceIte]; try rfl) (Qe (hfr0 _) (by omega)) (Bc hcl0 (by rw [Bp]; simp only [A8,Ax,Da,and_self])) (AV.lives_p _ _) ⟨by simp [G9,h],rfl⟩
theorem Dj {l:List (Nat × AO)} {b:Nat} (h:l.all fun x=>decide (x.1 < b)):∀ n,b≤n→O l n=none:=by
  intro n hn
  induction l with
  | nil=>rfl
  | cons x l ih=>
    simp only [List.all_cons,Bool.and_eq_true,decide_eq_true_eq] at h
    rw [Ab1,if_neg (by omega)]
    exact ih h.2
theorem c64 (a:Acc) (hl:a.rates.length < 1000000):Bf Try.prog 120 [avA a] (bl (Ca (G9 a.last) (-1) a.rates).2):=by
  refine Au (v:=[164]) (q:=[]) (N:=8) (rs:=[.tmp 2]) Try.func120 rfl rfl rfl rfl rfl ?_
  have ht:=Apu (f:=165) (a:=a) (nl:=3) (na:=1) (arg:=fun x:Fi=>.agg [i64 x.day,i64 x.pence]) (l:=a.rates) (step:=G9 a.last) (fun s x os bd _ h1 h2 h3 h4 h5 h6=>u87 s x os bd h1 h2 h3 h4 h5 h6) (by decide)
  refine Aa fun K1 hK1=>?_
  refine Ac ?_
  simp (disch:=omega) only [amL,sA,sM,↓reduceIte]
  refine hK1 _ ?_
  refine Aa fun K2 hK2=>?_
  refine Ac ?_
  simp (disch:=omega) only [amL,amT,sA,sF,sM,↓reduceIte]
  refine hK2 _ ?_
  refine Aa fun K3 hK3=>?_
  refine Ac ?_
  simp (disch:=omega) only [amL,amT,sA,sF,sM,↓reduceIte,reduceCtorEq]
  refine Be [] (by decide) (c86 (bd:=8) hl ht (fun m hm=>Ap5 hm) (s:=-1) ⟨rfl,rfl⟩) (Dj rfl) (by decide) (fun res os2 hR hcl2 hlv2=>?_)
  obtain ⟨rfl,hI2,hfr2⟩:=hR
  simp (disch:=omega) only [amL,sA,sM,↓reduceIte]
  refine hK3 _ ?_
  refine Ae ?_
  try simp (disch:=omega) only [amL,sM,↓reduceIte]
  skip
theorem Ej {last:Int} (hlast:last≤11):∀ (l:List Fi) (s:Int),-1≤s→s≤11→(Ca (G9 last) s l).2=Fh last s l
  | [],s,_,_=>rfl
  | r :: l,s,h1,h2=>by
    have hw:IntKind.wrap .i64 (s+1)=s+1:=Gk (by omega) (by omega)
    simp only [Ca,Fh]
    have e:(G9 last s r).2=(inB r.day (s+1) last&&inB r.pence 0 100):=by unfold G9; rw [hw]
    rw [e]
    have e2:inB r.day (s+1) last=(inB r.day 0 last&&decide (s < r.day)):=by
      rw [Bool.eq_iff_iff]; simp only [inB,Bool.and_eq_true,decide_eq_true_eq]; omega
    rw [e2]
    cases hb:inB r.day 0 last with
    | false=>simp
    | true=>
      cases hc:inB r.pence 0 100 with
      | false=>simp
      | true=>
        cases hd:decide (s < r.day) with
        | false=>simp
        | true=>
          simp only [inB,Bool.and_eq_true,decide_eq_true_eq] at hb
          have:=Ej hlast l r.day (by omega) (by omega)
          simp only [if_true,Bool.and_self,Bool.true_and]; exact this
theorem t62 {a:Acc} (h:∀ e ∈ a.entries,inR e.lo=true∧inR e.hi=true):Cv (.fn (.func 118) [avA a] []) (fun _=>False) avE a.entries (fun (_:Unit) _=>True) (fun _ e=>((),Cb a.last e)) where
  live s os _:=by
    rw [Cl]; simp only [A8,Ax,Qc,Da,and_self]
  stable _ _ _ _ _:=trivial
  foot _ _ _ _ h:=h.elim
  call s x os bd hx _ hcl:=by
    refine Bm.mono (M9 (by kernel_rfl) (c62 a x (h x hx).1 (h x hx).2)) ?_
    rintro r os' ⟨rfl,rfl⟩
    exact ⟨rfl,trivial,fun _ _=>rfl⟩
theorem Dy {α:Type} {p:α→Bool}:∀ l:List α,(Ca (fun (_:Unit) x=>((),p x)) () l).2=l.all p
  | []=>rfl
  | x :: l=>by
    simp only [Ca,List.all_cons]
    cases h:p x with
    | false=>simp
    | true=>simpa using Dy l
theorem Hi {n:Int} (h:(!inB n 0 11)=false):n≤11:=by
  simp only [Bool.not_eq_false',inB,Bool.and_eq_true,decide_eq_true_eq] at h; omega
theorem c25 (a:Acc) (hl1:a.rates.length < 1000000) (hl2:a.entries.length < 1000000) (hin:∀ e ∈ a.entries,inR e.lo=true∧inR e.hi=true):Bf Try.prog 70 [avA a] (i64 (Aq a)):=by
  refine Au (v:=[121]) (q:=[]) (N:=70) (rs:=[.tmp 2]) Try.func70 rfl rfl rfl rfl rfl ?_
  refine Aa fun K1 hK1=>?_
  refine Ac ?_
  simp (disch:=omega) only [amL,sA,↓reduceIte]
  refine hK1 _ ?_
  refine Aa fun K2 hK2=>?_
  refine Ac ?_
  simp (disch:=omega) only [amL,amT,sA,sB,sF,↓reduceIte]
  refine hK2 _ ?_
  refine Aa fun K3 hK3=>?_
  refine Ai ?_
  refine Aa fun K4 hK4=>?_
  refine Ac ?_
  simp (disch:=omega) only [amL,amT,sA,sF,↓reduceIte,reduceCtorEq]
  repeat' first | (refine B2 (fun h=>?_) (fun h=>?_) <;> simp (disch:=omega) only [h,amL,amT,sA,sF,↓reduceIte,reduceCtorEq]) | (refine Ba (fun h=>?_) (fun h=>?_) <;> simp (disch:=omega) only [h,B9,amL,amT,sA,sB,sC,sD,sE,sF,sG,sH,sI,sJ,sK,sL,sM,sN,sO,↓reduceIte,reduceCtorEq])
  all_goals
   skip
   refine hK4 _ ?_
   refine Ag rfl (fun h=>?_) (fun h=>?_)
   ·first
    | exact Bool.noConfusion h
    |skip
     try simp only [decide_eq_true_eq] at h
     refine Aa fun K5 hK5=>?_
     refine Ac ?_
     simp (disch:=omega) only [amL,sA]
     refine hK5 _ ?_
     refine Ae ?_
     try simp (disch:=omega) only [amL,↓reduceIte]
     all_goals first | ((have e:k=a.entries.length:=by omega); subst e; rw [List.take_length] at h; rw [Aq,if_neg (by omega),if_neg (by first | (simp_all; done) | fail),if_neg (by rw [hr]; simp),if_neg (by rw [he]; simp)]; first | rw [if_pos h]; done | rw [if_neg h]; done) | rw [Aq,if_pos (by omega)]; done | rw [Aq,if_neg (by omega),if_pos (by first | (simp_all; done) | fail)]; done | rw [Aq,if_neg (by omega),if_neg (by first | (simp_all; done) | fail),if_neg (by first | (simp_all; done) | fail),if_neg (by first | (simp_all; done) | fail),if_pos (by first | (simp_all; done) | fail)]; done | rw [Aq,if_neg (by omega),if_neg (by first | (simp_all; done) | fail),if_neg (by first | (simp_all; done) | fail),if_neg (by first | (simp_all; done) | fail),if_neg (by first | (simp_all; done) | fail)]; done | (have hr:=Ej (Hi (by assumption)) a.rates (-1) (by omega) (by omega); rw [Aq,if_neg (by omega),if_neg (by first | (simp_all; done) | fail),if_pos (by rw [← hr]; first | (simp_all; done) | fail)]; done) | (have hr:=Ej (Hi (by assumption)) a.rates (-1) (by omega) (by omega); have hu:=Dy (p:=Cb a.last) a.entries; rw [Aq,if_neg (by omega),if_neg (by first | (simp_all; done) | fail),if_neg (by rw [← hr]; first | (simp_all; done) | fail),if_pos (by rw [← hu]; first | (simp_all; done) | fail)]; done) | (omega)
   ·first
    | exact Bool.noConfusion h
    |skip
     try simp only [decide_eq_false_iff_not] at h
     refine Aa fun K6 hK6=>?_
     refine Ac ?_
     simp (disch:=omega) only [amL,amT,sA,sF,sG,↓reduceIte,reduceCtorEq]
     repeat' first | (refine B2 (fun h=>?_) (fun h=>?_) <;> simp (disch:=omega) only [h,B9,amL,amT,sA,sB,sC,sD,sE,sF,sG,sH,sI,sJ,sK,sL,sM,sN,sO,↓reduceIte,reduceCtorEq]) | (refine Ba (fun h=>?_) (fun h=>?_) <;> simp (disch:=omega) only [h,amL,amT,sA,sB,sF,sG,sM,↓reduceIte,reduceCtorEq]) | (refine Am (by kernel_rfl) rfl (c63 _ _ _) (by first | exact .inl rfl | exact .inr (.inl rfl)) ?_ ; simp (disch:=omega) only [amL,sA,sF,↓reduceIte]) | (refine Am (by kernel_rfl) rfl (c64 a hl1) (by first | exact .inl rfl | exact .inr (.inl rfl)) ?_ ; simp (disch:=omega) only [amL,sA,sF,sM,↓reduceIte])
     all_goals try (refine Be [(1,.ptr 1 0),(48,bl false)] (by decide) (c65 (bd:=70) hl2 (t62 hin) (fun m hm=>by simp [AV.clean,AV.clean.cleanL] at hm) (s:=()) trivial) (Dj rfl) (by decide) (fun res os2 hR hcl2 hlv2=>?_); obtain ⟨rfl,_,hfr2⟩:=hR; obtain rfl:os2=_:=funext fun n=>hfr2 n id; simp (disch:=omega) only [amL,sA,sF,sM,↓reduceIte])
     all_goals
      skip
      refine hK6 _ ?_
      refine Ag rfl (fun h=>?_) (fun h=>?_)
      ·first
       | exact Bool.noConfusion h
       |skip
        try simp only [Bool.not_eq_true'] at h
        refine Aa fun K7 hK7=>?_
        refine Ac ?_
        simp (disch:=omega) only [amL,sA,sM]
        refine hK7 _ ?_
        refine Ae ?_
        try simp (disch:=omega) only [amL,sM,↓reduceIte]
        all_goals first | ((have e:k=a.entries.length:=by omega); subst e; rw [List.take_length] at h; rw [Aq,if_neg (by omega),if_neg (by first | (simp_all; done) | fail),if_neg (by rw [hr]; simp),if_neg (by rw [he]; simp)]; first | rw [if_pos h]; done | rw [if_neg h]; done) | rw [Aq,if_pos (by omega)]; done | rw [Aq,if_neg (by omega),if_pos (by first | (simp_all; done) | fail)]; done | rw [Aq,if_neg (by omega),if_neg (by first | (simp_all; done) | fail),if_neg (by first | (simp_all; done) | fail),if_neg (by first | (simp_all; done) | fail),if_pos (by first | (simp_all; done) | fail)]; done | rw [Aq,if_neg (by omega),if_neg (by first | (simp_all; done) | fail),if_neg (by first | (simp_all; done) | fail),if_neg (by first | (simp_all; done) | fail),if_neg (by first | (simp_all; done) | fail)]; done | (have hr:=Ej (Hi (by assumption)) a.rates (-1) (by omega) (by omega); rw [Aq,if_neg (by omega),if_neg (by first | (simp_all; done) | fail),if_pos (by rw [← hr]; first | (simp_all; done) | fail)]; done) | (have hr:=Ej (Hi (by assumption)) a.rates (-1) (by omega) (by omega); have hu:=Dy (p:=Cb a.last) a.entries; rw [Aq,if_neg (by omega),if_neg (by first | (simp_all; done) | fail),if_neg (by rw [← hr]; first | (simp_all; done) | fail),if_pos (by rw [← hu]; first | (simp_all; done) | fail)]; done) | (omega)
      ·first
       | exact Bool.noConfusion h
       |skip
        try simp only [Bool.not_eq_false'] at h
        refine Aj ?_
        refine hK3 _ ?_
        refine Aa fun K8 hK8=>?_
        refine Ac ?_
        have hlast:a.last≤11:=Hi (by assumption)
        have hr:Fh a.last (-1) a.rates=true:=by rw [← Ej hlast _ _ (by omega) (by omega)]; simp_all
        have he:a.entries.all (Cb a.last)=true:=by rw [← Dy]; simp_all
        have hsm:=Lh (by omega) he
        simp (disch:=omega) only [amL,sA]
        refine hK8 _ ?_
        refine Aa fun K9 hK9=>?_
        refine Aa fun K10 hK10=>?_
        refine Ac ?_
        simp (disch:=omega) only [amL,amT,sA,sF,↓reduceIte,reduceCtorEq]
        refine hK10 _ ?_
        refine Ai ?_
        skip
        refine A7 (α:=Nat) (fun k=>⟨T [(4,i64 (Lc (a.entries.take k))),(56,.p (.sl (a.entries.map Lb))),(57,i64 a.entries.length),(58,i64 k)],O []⟩) (fun k=>a.entries.length - k) (fun k=>k≤a.entries.length) 0 ?_ ?_ (fun k hx11 K11 hK11=>?_)
        · simp
        · refine B7 ?_ ?_ ?_ ?_ <;> (try simp (disch:=omega) only [amL,sF,↓reduceIte]) <;> rfl
        have hb:=Qk hsm hx11
        refine Aa fun K12 hK12=>?_
        refine Ac ?_
        simp (disch:=omega) only [amL,amT,sA,sF,↓reduceIte]
        refine hK12 _ ?_
        refine Aa fun K13 hK13=>?_
        refine Ag rfl (fun h=>?_) (fun h=>?_)
        ·first
         | exact Bool.noConfusion h
         |skip
          try simp only [decide_eq_true_eq] at h
          refine Aj ?_
          refine hK13 _ ?_
          refine Aa fun K14 hK14=>?_
          refine Ai ?_
          refine Aa fun K15 hK15=>?_
          refine Ac ?_
          simp (disch:=omega) only [B9,amL,amT,sA,sB,sF,↓reduceIte]
          refine hK15 _ ?_
          refine Ac ?_
          have hk:k < a.entries.length:=by omega
          obtain ⟨e1,e2,e3⟩:=hsm.2 k hk
          have hb2:=Qk hsm (show k+1≤a.entries.length by omega)
          rw [H5 hk] at hb2
          have hw:=Z8 hb2.1 hb2.2
          have e4:-9223372036854775808≤(A9 a.entries k).hi - (A9 a.entries k).lo:=by omega
          have e5:(A9 a.entries k).hi - (A9 a.entries k).lo < 9223372036854775807:=by omega
          simp (disch:=omega) only [amL,amT,sA,sB,sE,sF,sG,↓reduceIte,reduceCtorEq]
          repeat' first | (refine Am (by kernel_rfl) rfl (c66 _ _ e4 e5) (by first | exact .inl rfl | exact .inr (.inl rfl)) ?_ ; simp (disch:=omega) only [hw,amL,amT,sA,sF,↓reduceIte])
          refine hK14 _ ?_
          refine Ac ?_
          simp (disch:=omega) only [amL,amT,sA,sF,↓reduceIte]
          refine hK11 (k+1) _ ?_ ?_ (B7 ?_ ?_ ?_ ?_)
          all_goals (try simp (disch:=omega) only [amL,sF,↓reduceIte])
          all_goals first | omega | rw [H5 hk]
        ·first
         | exact Bool.noConfusion h
         |skip
          try simp only [decide_eq_false_iff_not] at h
          refine Bg ?_
          refine hK9 _ ?_
          refine Aa fun K16 hK16=>?_
          refine Aa fun K17 hK17=>?_
          refine Ac ?_
          simp (disch:=omega) only [amL,amT,sA,sF,↓reduceIte]
          refine hK17 _ ?_
          refine Ag rfl (fun h=>?_) (fun h=>?_)
          ·first
           | exact Bool.noConfusion h
           |skip
            try simp only [decide_eq_true_eq] at h
            refine Aa fun K18 hK18=>?_
            refine Ac ?_
            simp (disch:=omega) only [amL,sA]
            refine hK18 _ ?_
            refine Ae ?_
            try simp (disch:=omega) only [amL,↓reduceIte]
            all_goals first | ((have e:k=a.entries.length:=by omega); subst e; rw [List.take_length] at h; rw [Aq,if_neg (by omega),if_neg (by first | (simp_all; done) | fail),if_neg (by rw [hr]; simp),if_neg (by rw [he]; simp)]; first | rw [if_pos h]; done | rw [if_neg h]; done) | rw [Aq,if_pos (by omega)]; done | rw [Aq,if_neg (by omega),if_pos (by first | (simp_all; done) | fail)]; done | rw [Aq,if_neg (by omega),if_neg (by first | (simp_all; done) | fail),if_neg (by first | (simp_all; done) | fail),if_neg (by first | (simp_all; done) | fail),if_pos (by first | (simp_all; done) | fail)]; done | rw [Aq,if_neg (by omega),if_neg (by first | (simp_all; done) | fail),if_neg (by first | (simp_all; done) | fail),if_neg (by first | (simp_all; done) | fail),if_neg (by first | (simp_all; done) | fail)]; done | (have hr:=Ej (Hi (by assumption)) a.rates (-1) (by omega) (by omega); rw [Aq,if_neg (by omega),if_neg (by first | (simp_all; done) | fail),if_pos (by rw [← hr]; first | (simp_all; done) | fail)]; done) | (have hr:=Ej (Hi (by assumption)) a.rates (-1) (by omega) (by omega); have hu:=Dy (p:=Cb a.last) a.entries; rw [Aq,if_neg (by omega),if_neg (by first | (simp_all; done) | fail),if_neg (by rw [← hr]; first | (simp_all; done) | fail),if_pos (by rw [← hu]; first | (simp_all; done) | fail)]; done) | (omega)
          ·first
           | exact Bool.noConfusion h
           |skip
            try simp only [decide_eq_false_iff_not] at h
            refine Aj ?_
            refine hK16 _ ?_
            refine Aa fun K19 hK19=>?_
            refine Ac ?_
            simp (disch:=omega) only [amL,sA]
            refine hK19 _ ?_
            refine Ae ?_
            try simp (disch:=omega) only [amL,↓reduceIte]
            all_goals first | ((have e:k=a.entries.length:=by omega); subst e; rw [List.take_length] at h; rw [Aq,if_neg (by omega),if_neg (by first | (simp_all; done) | fail),if_neg (by rw [hr]; simp),if_neg (by rw [he]; simp)]; first | rw [if_pos h]; done | rw [if_neg h]; done) | rw [Aq,if_pos (by omega)]; done | rw [Aq,if_neg (by omega),if_pos (by first | (simp_all; done) | fail)]; done | rw [Aq,if_neg (by omega),if_neg (by first | (simp_all; done) | fail),if_neg (by first | (simp_all; done) | fail),if_neg (by first | (simp_all; done) | fail),if_pos (by first | (simp_all; done) | fail)]; done | rw [Aq,if_neg (by omega),if_neg (by first | (simp_all; done) | fail),if_neg (by first | (simp_all; done) | fail),if_neg (by first | (simp_all; done) | fail),if_neg (by first | (simp_all; done) | fail)]; done | (have hr:=Ej (Hi (by assumption)) a.rates (-1) (by omega) (by omega); rw [Aq,if_neg (by omega),if_neg (by first | (simp_all; done) | fail),if_pos (by rw [← hr]; first | (simp_all; done) | fail)]; done) | (have hr:=Ej (Hi (by assumption)) a.rates (-1) (by omega) (by omega); have hu:=Dy (p:=Cb a.last) a.entries; rw [Aq,if_neg (by omega),if_neg (by first | (simp_all; done) | fail),if_neg (by rw [← hr]; first | (simp_all; done) | fail),if_pos (by rw [← hu]; first | (simp_all; done) | fail)]; done) | (omega)
def idx (x:Int):List Int→Nat→Int
  | [],_=>-1
  | y :: l,k=>if x=y then k else idx x l (k+1)
theorem Uj {x:Int} {l:List Int} {k:Nat} (h:k < l.length):idx x (l.drop k) k=if x=l.getD k 0 then (k:Int) else idx x (l.drop (k+1)) (k+1):=by
  rw [Gi (d:=0) h]; rfl
theorem Aes {x:Int} {l:List Int} {k:Nat} (h:l.length≤k):idx x (l.drop k) k=-1:=by rw [List.drop_of_length_le h]; rfl
theorem Bbz (l:List Int) (x:Int) (hl:l.length < 1000000):Bf Try.prog 204 [isl l,i64 x] (i64 (idx x l 0)):=by
  refine Au (v:=[]) (q:=[]) (N:=19) (rs:=[.tmp 4]) Try.func204 rfl rfl rfl rfl rfl ?_
  refine Aa fun K1 hK1=>?_
  refine Ac ?_
  simp (disch:=omega) only [amL,sA,sB]
  refine hK1 _ ?_
  refine Aa fun K2 hK2=>?_
  refine Aa fun K3 hK3=>?_
  refine Ac ?_
  simp (disch:=omega) only [amL,amT,sA,↓reduceIte,reduceCtorEq]
  refine hK3 _ ?_
  refine Ai ?_
  skip
  refine A7 (α:=Nat) (fun k=>⟨T [(0,isl l),(1,i64 x),(7,i64 l.length),(8,i64 k)],O []⟩) (fun k=>l.length - k) (fun k=>k≤l.length∧idx x (l.drop k) k=idx x l 0) 0 ?_ ?_ (fun k hx4 K4 hK4=>?_)
  · simp
  · refine B7 ?_ ?_ ?_ ?_ <;> (try simp (disch:=omega) only [amL,sF,↓reduceIte,reduceCtorEq])
  obtain ⟨hk,hn⟩:=hx4
  refine Aa fun K5 hK5=>?_
  refine Ac ?_
  simp (disch:=omega) only [amL,amT,sA,sF,↓reduceIte,reduceCtorEq]
  refine hK5 _ ?_
  refine Aa fun K6 hK6=>?_
  refine Ag rfl (fun h=>?_) (fun h=>?_)
  ·first
   | exact Bool.noConfusion h
   |skip
    try simp only [decide_eq_true_eq] at h
    refine Aj ?_
    refine hK6 _ ?_
    refine Aa fun K7 hK7=>?_
    refine Ai ?_
    refine Aa fun K8 hK8=>?_
    refine Ac ?_
    simp (disch:=omega) only [amL,sA,sF,↓reduceIte,reduceCtorEq]
    refine hK8 _ ?_
    refine Aa fun K9 hK9=>?_
    refine Ac ?_
    simp (disch:=omega) only [amL,amT,sA,sF,↓reduceIte,reduceCtorEq]
    refine hK9 _ ?_
    refine Ag rfl (fun h=>?_) (fun h=>?_)
    ·first
     | exact Bool.noConfusion h
     |skip
      try simp only [decide_eq_true_eq] at h
      refine Aa fun K10 hK10=>?_
      refine Ac ?_
      simp (disch:=omega) only [amL,sA,sF,↓reduceIte]
      refine hK10 _ ?_
      refine Ae ?_
      try simp (disch:=omega) only [amL,↓reduceIte]
      first | (rw [← hn,Uj (by omega),if_pos h]; done) | (rw [← hn,Aes (by omega)]; done)
    ·first
     | exact Bool.noConfusion h
     |skip
      try simp only [decide_eq_false_iff_not] at h
      refine Aj ?_
      refine hK7 _ ?_
      refine Ac ?_
      simp (disch:=omega) only [amL,amT,sA,sF,↓reduceIte,reduceCtorEq]
      refine hK4 (k+1) _ ?_ ?_ (B7 ?_ ?_ ?_ ?_)
      all_goals (try simp (disch:=omega) only [amL,sF,↓reduceIte,reduceCtorEq])
      all_goals first | omega | exact ⟨by omega,by rw [Uj (by omega),if_neg h] at hn; exact hn⟩
  ·first
   | exact Bool.noConfusion h
   |skip
    try simp only [decide_eq_false_iff_not] at h
    refine Bg ?_
    refine hK2 _ ?_
    refine Aa fun K11 hK11=>?_
    refine Ac ?_
    simp (disch:=omega) only [amL,sA,sM]
    refine hK11 _ ?_
    refine Ae ?_
    try simp (disch:=omega) only [amL,sM,↓reduceIte]
    first | (rw [← hn,Uj (by omega),if_pos h]; done) | (rw [← hn,Aes (by omega)]; done)
theorem Aen (x:Int):∀ (l:List Int) (k:Nat),decide (0≤idx x l k)=decide (x ∈ l)
  | [],k=>by simp [idx]
  | y :: l,k=>by
    simp only [idx]
    split
    · rename_i e; subst e; simp
    · rename_i e; rw [Aen x l (k+1)]; simp [e]
theorem c83 (l:List Int) (x:Int) (hl:l.length < 1000000):Bf Try.prog 171 [isl l,i64 x] (bl (decide (x ∈ l))):=by
  refine Au (v:=[]) (q:=[]) (N:=9) (rs:=[.tmp 4]) Try.func171 rfl rfl rfl rfl rfl ?_
  refine Aa fun K1 hK1=>?_
  refine Ac ?_
  simp (disch:=omega) only [amL,sA,sB]
  refine hK1 _ ?_
  refine Aa fun K2 hK2=>?_
  refine Ac ?_
  simp (disch:=omega) only [amL,sA,sF,↓reduceIte,reduceCtorEq]
  repeat' first | (refine Am (by kernel_rfl) rfl (Bbz l x hl) (by first | exact .inl rfl | exact .inr (.inl rfl)) ?_ ; simp (disch:=omega) only [amL,amT,sA,↓reduceIte])
  refine hK2 _ ?_
  refine Ae ?_
  try simp (disch:=omega) only [amL,↓reduceIte]
  try rw [Aen]
set_option maxRecDepth 100000 in
theorem Ajw:Jy Try.prog 289 6:=Ajr (by kernel_rfl)
theorem Ato:∀ w,(zeroValue 3).run Try.prog w=.ok (.int .i64 0) w:=fun w=>by
  have h:(Try.prog.info? 3).map (fun i=>i.zero)=some (some (.int .i64 0)):=by kernel_rfl
  cases hi:Try.prog.info? 3 with
  | none=>rw [hi] at h; cases h
  | some i=>
    rw [hi] at h
    have hz:i.zero=some (.int .i64 0):=by simpa using h
    simp [zeroValue,typeInfo,hi,hz]
def Dw (rates:List Fi):List Int→Int
  | [_,day,_,_,_,u]=>IntKind.wrap .i64 (u * B5 day rates 0)
  | _=>0
abbrev cW (a:Acc) (d u:Int) (m:Nat):List AV:=[i64 a.last,i64 a.interest,i64 a.bond,i64 a.purse,.p (.sl (a.rates.map F2)),.p (.sl (a.entries.map Lb)),i64 d,i64 u,.mp m]
abbrev avM (e:Bo) (u:Int):AV:=.agg [i64 e.kind,i64 e.day,i64 e.lo,i64 e.hi,i64 e.pence,i64 u]
abbrev kM (e:Bo) (u:Int):List Int:=[e.kind,e.day,e.lo,e.hi,e.pence,u]
theorem Adn {e:Bo} {u:Int}:Ck [i64 e.kind,i64 e.day,i64 e.lo,i64 e.hi,i64 e.pence,i64 u]=some (kM e u):=rfl
theorem Uy {os:Nat→Option AO} {m:Nat} {y:Option AO} (hm:os m=none):Sub os (upd os m y):=fun k=>by
  by_cases e2:k=m
  · subst e2; left; exact hm
  · right; rw [Ad e2]
theorem Awv {a:Acc} {d u:Int} {w m:Nat} {os:Nat→Option AO} {e:Bo} {n:Int} {bd:Nat} (hl:a.rates.length < 1000000) (hr:(kM e n).all inR=true) (hw:os w=some (.cells (cW a d u m))) (hm:os m=some (.obj (Mc 6 (Dw a.rates)))) :
    Bm Try.prog bd (.fn (.func 216) [] []) [.ptr w 0,avM e n] os fun res os'=>res=i64 (Dw a.rates (kM e n))∧os'=os:=by
  refine Bn (v:=[]) (q:=[]) (N:=36) (rs:=[.tmp 4]) Try.func216 rfl (by kernel_rfl) rfl rfl (fun hcl hfree=>?_)
  have hfr0:∀ k,os (bd+k)=none:=fun k=>hfree _ (by omega)
  have hwb:=Al hfree hw
  have hmb:=Al hfree hm
  refine Aa fun K1 hK1=>?_
  refine Ac ?_
  simp (disch:=omega) only [hfr0,amL,sA,sB,↓reduceIte,reduceCtorEq]
  refine hK1 _ ?_
  refine Aa fun K2 hK2=>?_
  refine Ajj (by kernel_rfl) (by kernel_rfl) ?_
  simp (disch:=omega) only [hw,Ad,amL,amT,sA,sB,sF,↓reduceIte,reduceCtorEq]
  refine Aew rfl (by rw [Aig]) Ato Ajw ((Ad (by omega)).trans hm) Adn rfl hr ?_ ?_ <;> simp (disch:=omega) only [amL,sA,sF,↓reduceIte]
  all_goals
   skip
   refine hK2 _ ?_
   refine Aa fun K3 hK3=>?_
   refine Aa fun K4 hK4=>?_
   refine Ac ?_
   simp (disch:=omega) only [amL,sA,↓reduceIte]
   refine hK4 _ ?_
   refine Ag rfl (fun h=>?_) (fun h=>?_)
   ·first
    | exact Bool.noConfusion h
    |skip
     try simp only [] at h
     refine Aa fun K5 hK5=>?_
     refine Bk (by kernel_rfl) (by kernel_rfl) ?_
     simp (disch:=omega) only [hw,Ad,amL,amT,sA,sB,sE,sF,↓reduceIte,reduceCtorEq]
     repeat' first | (refine Am (by kernel_rfl) rfl (Azq a _ hl) (by first | exact .inl rfl | exact .inr (.inl rfl)) ?_ ; simp (disch:=omega) only [amL,amT,sA,sF,↓reduceIte])
     refine hK5 _ ?_
     refine Bk (by kernel_rfl) (by kernel_rfl) ?_
     simp (disch:=omega) only [hw,Ad,amL,amT,sA,sB,sF,↓reduceIte,reduceCtorEq]
     all_goals (refine Af8 (by rw [Aig]) Ajw ((Ad (by omega)).trans hm) Adn rfl hr rfl ?_ ; simp (disch:=omega) only [amL])
     all_goals
      skip
      refine hK3 _ ?_
      refine Aa fun K6 hK6=>?_
      refine Ac ?_
      simp (disch:=omega) only [amL,sA,sF,↓reduceIte]
      refine hK6 _ ?_
      refine Ae ?_
      try simp (disch:=omega) only [amL]
      refine Az (res:=i64 _) os (by simp (disch:=omega) only [amL,↓reduceIte]; try rfl) (Uy (hfr0 _)) hcl (AV.lives_p _ _) ⟨rfl,rfl⟩
   ·first
    | exact Bool.noConfusion h
    |skip
     try simp only [] at h
     refine Aj ?_
     refine hK3 _ ?_
     refine Aa fun K7 hK7=>?_
     refine Ac ?_
     simp (disch:=omega) only [amL,sA,sF,↓reduceIte]
     refine hK7 _ ?_
     refine Ae ?_
     try simp (disch:=omega) only [amL]
     refine Az (res:=i64 _) os (by simp (disch:=omega) only [amL,↓reduceIte]; try rfl) (Uy (hfr0 _)) hcl (AV.lives_p _ _) ⟨rfl,rfl⟩
theorem Rd {a:Acc} {d u d' u':Int} {w m:Nat} {os:Nat→Option AO} {X:Obj→Prop} (hcl:(Hp os).closed) (hw:os w=some (.cells (cW a d u m))) (hm:os m=some (.obj X)):(Hp (upd os w (some (.cells (cW a d' u' m))))).closed:=Bc hcl (by
  rw [Bp]; simp only [A8,Ax,Da,R6,true_and,and_true]
  by_cases e:m=w
  · subst e; rw [Ak]; rfl
  · rw [Ad e,hm]; rfl)
theorem c99 {a:Acc} {d u:Int} {w m:Nat} {os:Nat→Option AO} {e:Bo} {n:Int} {bd:Nat} (hl:a.rates.length < 1000000) (hr:(kM e n).all inR=true) (hb1:-1000000000000000000≤d∧d≤1000000000000000000) (hb2:-1000000000000000000≤Dw a.rates (kM e n)∧Dw a.rates (kM e n)≤1000000000000000000) (hb3:-1000000000000000000≤u∧u≤1000000000000000000) (hb4:-1000000000000000000≤n∧n≤1000000000000000000) (hw:os w=some (.cells (cW a d u m))) (hm:os m=some (.obj (Mc 6 (Dw a.rates)))) :
    Bm Try.prog bd (.fn (.func 200) [] []) [.ptr w 0,avM e n] os fun res os'=>res=bl (true)∧os'=upd os w (some (.cells (cW a (d+Dw a.rates (kM e n)) (u+n) m))):=by
  refine Bn (v:=[216]) (q:=[216]) (N:=24) (rs:=[.tmp 4]) Try.func200 rfl (by kernel_rfl) rfl rfl (fun hcl hfree=>?_)
  have hfr0:∀ k,os (bd+k)=none:=fun k=>hfree _ (by omega)
  have hwb:=Al hfree hw
  have hmb:=Al hfree hm
  refine Aa fun K1 hK1=>?_
  refine Ac ?_
  simp (disch:=omega) only [hfr0,amL,sA,sB,↓reduceIte,reduceCtorEq]
  refine hK1 _ ?_
  refine Aa fun K2 hK2=>?_
  refine Ka [] (by kernel_rfl) (by kernel_rfl) ?_
  simp (disch:=omega) only [hw,Ad,amL,amT,sA,sB,sF,↓reduceIte,reduceCtorEq]
  refine Abf (bd:=bd+24) (by decide) (Awv (d:=d) (u:=u) (w:=w) (m:=m) (e:=e) (n:=n) hl hr ((Ad (by omega)).trans hw) ((Ad (by omega)).trans hm)) (fun n hn=>(Ad (by omega)).trans (hfree n (by omega))) (by simp only []; omega) rfl ?_
  simp (disch:=omega) only [hw,Ad,amL,amT,sA,sB,sE,sF,↓reduceIte,reduceCtorEq]
  refine hK2 _ ?_
  refine Aa fun K3 hK3=>?_
  refine Bk (by kernel_rfl) (by kernel_rfl) ?_
  simp (disch:=omega) only [Ad,C1,amL,amT,sA,sB,sE,sF,↓reduceIte,reduceCtorEq]
  refine hK3 _ ?_
  refine Aa fun K4 hK4=>?_
  refine Ac ?_
  simp (disch:=omega) only [amL,sA]
  refine hK4 _ ?_
  refine Ae ?_
  try simp (disch:=omega) only [amL]
  refine Az (res:=bl _) (upd os w (some (.cells (cW a (d+Dw a.rates (kM e n)) (u+n) m)))) (by simp (disch:=omega) only [amL,↓reduceIte]; try rfl) (Qe (hfr0 _) (by omega)) (Rd hcl hw hm) (AV.lives_p _ _) ⟨rfl,rfl⟩
theorem Bap {a:Acc} {d u:Int} {w m:Nat} {os:Nat→Option AO} {e:Bo} {n:Int} {bd:Nat} (hl:a.rates.length < 1000000) (hr:(kM e n).all inR=true) (hb1:-1000000000000000000≤d∧d≤1000000000000000000) (hb2:-1000000000000000000≤Dw a.rates (kM e n)∧Dw a.rates (kM e n)≤1000000000000000000) (hb3:-1000000000000000000≤u∧u≤1000000000000000000) (hb4:-1000000000000000000≤n∧n≤1000000000000000000) (hw:os w=some (.cells (cW a d u m))) (hm:os m=some (.obj (Mc 6 (Dw a.rates)))) :
    Bm Try.prog bd (.fn (.func 202) [] []) [.ptr w 0,avM e n] os fun res os'=>res=bl (decide (0≤u - n))∧os'=upd os w (some (.cells (cW a (d - Dw a.rates (kM e n)) (u - n) m))):=by
  refine Bn (v:=[216]) (q:=[216]) (N:=29) (rs:=[.tmp 4]) Try.func202 rfl (by kernel_rfl) rfl rfl (fun hcl hfree=>?_)
  have hfr0:∀ k,os (bd+k)=none:=fun k=>hfree _ (by omega)
  have hwb:=Al hfree hw
  have hmb:=Al hfree hm
  refine Aa fun K1 hK1=>?_
  refine Ac ?_
  simp (disch:=omega) only [hfr0,amL,sA,sB,↓reduceIte,reduceCtorEq]
  refine hK1 _ ?_
  refine Aa fun K2 hK2=>?_
  refine Ka [] (by kernel_rfl) (by kernel_rfl) ?_
  simp (disch:=omega) only [hw,Ad,amL,amT,sA,sB,sF,↓reduceIte,reduceCtorEq]
  refine Abf (bd:=bd+29) (by decide) (Awv (d:=d) (u:=u) (w:=w) (m:=m) (e:=e) (n:=n) hl hr ((Ad (by omega)).trans hw) ((Ad (by omega)).trans hm)) (fun n hn=>(Ad (by omega)).trans (hfree n (by omega))) (by simp only []; omega) rfl ?_
  simp (disch:=omega) only [hw,Ad,amL,amT,sA,sB,sE,sF,↓reduceIte,reduceCtorEq]
  refine hK2 _ ?_
  refine Aa fun K3 hK3=>?_
  refine Bk (by kernel_rfl) (by kernel_rfl) ?_
  simp (disch:=omega) only [Ad,C1,amL,amT,sA,sB,sE,sF,↓reduceIte,reduceCtorEq]
  refine hK3 _ ?_
  refine Aa fun K4 hK4=>?_
  refine Ac ?_
  simp (disch:=omega) only [amL,amT,sA,↓reduceIte,reduceCtorEq]
  refine hK4 _ ?_
  refine Ae ?_
  try simp (disch:=omega) only [amL]
  refine Az (res:=bl _) (upd os w (some (.cells (cW a (d - Dw a.rates (kM e n)) (u - n) m)))) (by simp (disch:=omega) only [amL,↓reduceIte]; try rfl) (Qe (hfr0 _) (by omega)) (Rd hcl hw hm) (AV.lives_p _ _) ⟨rfl,rfl⟩
theorem Bb3 {a:Acc} {d u:Int} {w m:Nat} {os:Nat→Option AO} {e:Bo} {n:Int} {bd:Nat} (hb1:-1000000000000000000≤d∧d≤1000000000000000000) (hb2:-1000000000000000000≤e.pence∧e.pence≤1000000000000000000) (hw:os w=some (.cells (cW a d u m))) (hm:os m=some (.obj (Mc 6 (Dw a.rates)))) :
    Bm Try.prog bd (.fn (.func 201) [] []) [.ptr w 0,avM e n] os fun res os'=>res=bl (true)∧os'=upd os w (some (.cells (cW a (d - e.pence) u m))):=by
  refine Bn (v:=[]) (q:=[]) (N:=15) (rs:=[.tmp 4]) Try.func201 rfl (by kernel_rfl) rfl rfl (fun hcl hfree=>?_)
  have hfr0:∀ k,os (bd+k)=none:=fun k=>hfree _ (by omega)
  have hwb:=Al hfree hw
  have hmb:=Al hfree hm
  refine Aa fun K1 hK1=>?_
  refine Ac ?_
  simp (disch:=omega) only [hfr0,amL,sA,sB,↓reduceIte,reduceCtorEq]
  refine hK1 _ ?_
  refine Aa fun K2 hK2=>?_
  refine Bk (by kernel_rfl) (by kernel_rfl) ?_
  simp (disch:=omega) only [hw,Ad,amL,amT,sA,sB,sE,sF,↓reduceIte,reduceCtorEq]
  refine hK2 _ ?_
  refine Aa fun K3 hK3=>?_
  refine Ac ?_
  simp (disch:=omega) only [amL,sA]
  refine hK3 _ ?_
  refine Ae ?_
  try simp (disch:=omega) only [amL]
  refine Az (res:=bl _) (upd os w (some (.cells (cW a (d - e.pence) u m)))) (by simp (disch:=omega) only [amL,↓reduceIte]; try rfl) (Qe (hfr0 _) (by omega)) (Rd hcl hw hm) (AV.lives_p _ _) ⟨rfl,rfl⟩
theorem Azs {a:Acc} {d u:Int} {w m:Nat} {os:Nat→Option AO} {e:Bo} {n:Int} {bd:Nat} (hw:os w=some (.cells (cW a d u m))) (hm:os m=some (.obj (Mc 6 (Dw a.rates)))) :
    Bm Try.prog bd (.fn (.func 203) [] []) [.ptr w 0,avM e n] os fun res os'=>res=bl (decide (d=e.pence))∧os'=os:=by
  refine Bn (v:=[]) (q:=[]) (N:=13) (rs:=[.tmp 4]) Try.func203 rfl (by kernel_rfl) rfl rfl (fun hcl hfree=>?_)
  have hfr0:∀ k,os (bd+k)=none:=fun k=>hfree _ (by omega)
  have hwb:=Al hfree hw
  have hmb:=Al hfree hm
  refine Aa fun K1 hK1=>?_
  refine Ac ?_
  simp (disch:=omega) only [hfr0,amL,sA,sB,↓reduceIte,reduceCtorEq]
  refine hK1 _ ?_
  refine Aa fun K2 hK2=>?_
  refine Bk (by kernel_rfl) (by kernel_rfl) ?_
  simp (disch:=omega) only [hw,Ad,amL,amT,sA,sF,↓reduceIte,reduceCtorEq]
  refine hK2 _ ?_
  refine Ae ?_
  try simp (disch:=omega) only [amL]
  refine Az (res:=bl _) (os) (by simp (disch:=omega) only [amL,↓reduceIte]; try rfl) (Uy (hfr0 _)) (hcl) (AV.lives_p _ _) ⟨rfl,rfl⟩
theorem c82:Bf Try.prog 170 [] (.agg [.fn (.func 200) [] [],.fn (.func 201) [] [],.fn (.func 202) [] [],.fn (.func 203) [] []]):=by
  refine Au (v:=[]) (q:=[]) (N:=6) (rs:=[.cell 0 286]) Try.func170 rfl rfl rfl rfl rfl ?_
  refine Aa fun K1 hK1=>?_
  refine Ac ?_
  simp (disch:=omega) only [amL,amT,sA,sB,↓reduceIte]
  refine hK1 _ ?_
  refine Aa fun K2 hK2=>?_
  refine Ac ?_
  simp (disch:=omega) only [amL,amT,sA,sB,sE,sF,↓reduceIte,reduceCtorEq]
  refine hK2 _ ?_
  refine Ae ?_
  try simp (disch:=omega) only [Ak5,amL,amT,sB,↓reduceIte,reduceCtorEq]
  skip
theorem c35 (lo hi:Int):Bf Try.prog 73 [.agg [i64 lo,i64 hi]] (.agg [i64 lo,i64 hi]):=by
  refine Au (v:=[]) (q:=[]) (N:=8) (rs:=[.cell 2 90]) Try.func73 rfl rfl rfl rfl rfl ?_
  refine Aa fun K1 hK1=>?_
  refine Ac ?_
  simp (disch:=omega) only [amL,amT,sA,sB,sF,↓reduceIte]
  refine hK1 _ ?_
  refine Aa fun K2 hK2=>?_
  refine Ac ?_
  simp (disch:=omega) only [amL,amT,sA,sB,sE,sF,↓reduceIte,reduceCtorEq]
  refine hK2 _ ?_
  refine Ae ?_
  try simp (disch:=omega) only [amL,amT,sB,sF,↓reduceIte]
  skip
theorem W9 {α β:Type} (f:α→β) {l:List α} {k:Nat} (d:α) (h:k < l.length):(l.take (k+1)).map f=(l.take k).map f++[f (l.getD k d)]:=by
  rw [List.take_add_one,List.map_append]
  simp [h,List.getD]
theorem c22 (a:Acc) (h1:a.rates.length < 1000000) (h2:a.entries.length < 1000000):Bf Try.prog 22 [avA a] (avA a):=by
  refine Au (v:=[]) (q:=[]) (N:=69) (rs:=[.cell 2 86]) Try.func22 rfl rfl rfl rfl rfl ?_
  refine Aa fun K1 hK1=>?_
  refine Ac ?_
  simp (disch:=omega) only [amL,amT,sA,sB,sF,↓reduceIte]
  refine hK1 _ ?_
  refine Aa fun K2 hK2=>?_
  refine Ac ?_
  simp (disch:=omega) only [amL,amT,sA,sB,sE,sF,↓reduceIte,reduceCtorEq]
  refine hK2 _ ?_
  refine Aa fun K3 hK3=>?_
  refine Aa fun K4 hK4=>?_
  refine Ac ?_
  simp (disch:=omega) only [amL,sA]
  refine hK4 _ ?_
  refine Ai ?_
  refine Jv 39 2 3 4 (by decide) rfl rfl rfl ?_
  refine A7 (α:=Nat) (fun k=>⟨T [(1,.ptr 1 0),(2,.ptr 2 0),(3,.ptr 3 0),(4,i64 k)],O [(1,.cells (cA a)),(2,.cells [i64 0,i64 0,i64 0,i64 0,.p (.val (.slice none 0 0)),.p (.val (.slice none 0 0))]),(3,.cells [i64 a.last,i64 a.interest,i64 a.bond,i64 a.purse,.own 39 k,.p (.val (.slice none 0 0))]),(39,.arr 2 ((a.rates.take k).map F2))]⟩) (fun k=>a.rates.length - k) (fun k=>k≤a.rates.length) 0 ?_ ?_ (fun k hx5 K5 hK5=>?_)
  · simp
  · refine B7 ?_ ?_ ?_ ?_ <;> (try simp (disch:=omega) only [amL,sF,sG,↓reduceIte])
  skip
  refine Aa fun K6 hK6=>?_
  refine Aa fun K7 hK7=>?_
  refine Ac ?_
  simp (disch:=omega) only [amL,amT,sA,sF,↓reduceIte,reduceCtorEq]
  refine hK7 _ ?_
  refine Ag rfl (fun h=>?_) (fun h=>?_)
  ·first
   | exact Bool.noConfusion h
   |skip
    try simp only [decide_eq_true_eq] at h
    refine Aj ?_
    refine hK6 _ ?_
    refine Aa fun K8 hK8=>?_
    refine Ai ?_
    refine Bk (by kernel_rfl) (by kernel_rfl) ?_
    simp (disch:=omega) only [Dx,amL,amT,sA,sB,sC,sE,sF,↓reduceIte,reduceCtorEq]
    refine hK8 _ ?_
    refine Ac ?_
    simp (disch:=omega) only [amL,amT,sA,sF,↓reduceIte]
    refine hK5 (k+1) _ ?_ ?_ (B7 ?_ ?_ ?_ ?_)
    all_goals (try simp (disch:=omega) only [amL,sF,sG,↓reduceIte])
    all_goals first | omega | rw [W9 F2 default (by omega)]
  ·first
   | exact Bool.noConfusion h
   |skip
    try simp only [decide_eq_false_iff_not] at h
    refine Bg ?_
    refine hK3 _ ?_
    refine Aa fun K9 hK9=>?_
    refine Aa fun K10 hK10=>?_
    refine Ac ?_
    simp (disch:=omega) only [amL,sA]
    refine hK10 _ ?_
    refine Ai ?_
    refine Jv 66 5 3 5 (by decide) rfl rfl rfl ?_
    refine A7 (α:=Nat) (fun j=>⟨T [(2,.ptr 2 0),(1,.ptr 1 0),(3,.ptr 3 0),(5,i64 j)],O [(1,.cells (cA a)),(2,.cells [i64 0,i64 0,i64 0,i64 0,.p (.val (.slice none 0 0)),.p (.val (.slice none 0 0))]),(3,.cells [i64 a.last,i64 a.interest,i64 a.bond,i64 a.purse,.own 39 k,.own 66 j]),(39,.arr 2 ((a.rates.take k).map F2)),(66,.arr 5 ((a.entries.take j).map Lb))]⟩) (fun j=>a.entries.length - j) (fun j=>j≤a.entries.length) 0 ?_ ?_ (fun j hx11 K11 hK11=>?_)
    · simp
    · refine B7 ?_ ?_ ?_ ?_ <;> (try simp (disch:=omega) only [amL,sF,sG,↓reduceIte])
    skip
    refine Aa fun K12 hK12=>?_
    refine Aa fun K13 hK13=>?_
    refine Ac ?_
    simp (disch:=omega) only [amL,amT,sA,sF,↓reduceIte,reduceCtorEq]
    refine hK13 _ ?_
    refine Ag rfl (fun h=>?_) (fun h=>?_)
    ·first
     | exact Bool.noConfusion h
     |skip
      try simp only [decide_eq_true_eq] at h
      refine Aj ?_
      refine hK12 _ ?_
      refine Aa fun K14 hK14=>?_
      refine Ai ?_
      refine Aa fun K15 hK15=>?_
      refine Ac ?_
      simp (disch:=omega) only [B9,amL,amT,sA,sB,sF,↓reduceIte,reduceCtorEq]
      refine hK15 _ ?_
      refine Bk (by kernel_rfl) (by kernel_rfl) ?_
      simp (disch:=omega) only [amL,amT,sA,sB,sE,sF,↓reduceIte,reduceCtorEq]
      repeat' first | (refine Am (by kernel_rfl) rfl (c35 _ _) (by first | exact .inl rfl | exact .inr (.inl rfl)) ?_ ; simp (disch:=omega) only [amL,amT,sA,sB,sC,sE,sF,↓reduceIte,reduceCtorEq])
      refine hK14 _ ?_
      refine Ac ?_
      simp (disch:=omega) only [amL,amT,sA,sF,↓reduceIte]
      refine hK11 (j+1) _ ?_ ?_ (B7 ?_ ?_ ?_ ?_)
      all_goals (try simp (disch:=omega) only [amL,sF,sG,↓reduceIte])
      all_goals first | omega | rw [W9 Lb default (by omega)]
    ·first
     | exact Bool.noConfusion h
     |skip
      try simp only [decide_eq_false_iff_not] at h
      refine Bg ?_
      refine hK9 _ ?_
      refine Aa fun K16 hK16=>?_
      refine Ac ?_
      simp (disch:=omega) only [amL,amT,sB,sF,↓reduceIte]
      refine hK16 _ ?_
      refine Ae ?_
      try simp (disch:=omega) only [amL,amT,sB,sF,↓reduceIte]
      (have e:k=a.rates.length:=by omega); (have e2:j=a.entries.length:=by omega); subst e e2; rw [List.take_length,List.take_length,List.take_of_length_le (by simp),List.take_of_length_le (by simp)]
structure Wk where
 debt:Int
 plain:Int
 units:Int
 ok:Bool
def bnd:Nat→Int
 | 0=>2000000
 | d+1=>2 * bnd d+2000000
theorem Ack:∀ d,2000000≤bnd d
 | 0=>by simp [bnd]
 | d+1=>by have:=Ack d; simp only [bnd]; omega
theorem Aj3 {d:Nat} (h:d≤12):bnd d≤100000000000:=by
 have:d=0∨d=1∨d=2∨d=3∨d=4∨d=5∨d=6∨d=7∨d=8∨d=9∨d=10∨d=11∨d=12:=by omega
 rcases this with rfl | rfl | rfl | rfl | rfl | rfl | rfl | rfl | rfl | rfl | rfl | rfl | rfl <;> decide
theorem Wo {i d:Int} (h1:0≤i) (h2:i≤200):0≤Ab4 i d∧(Ab4 i d≤d∨(d≤0∧Ab4 i d=0)):=by
 unfold Ab4
 split
 ·omega
 ·have h3:d * i≤d * 200:=Int.mul_le_mul_of_nonneg_left h2 (by omega)
  have h4:0≤d * i:=Int.mul_nonneg (by omega) h1
  omega
structure Fit (a:Acc) (t:List Int):Prop where
 last0:0≤a.last
 last1:a.last≤11
 int0:0≤a.interest
 int1:a.interest≤200
 purse0:0≤a.purse
 purse1:a.purse≤100000
 len:t.length≤a.entries.length
 lenE:a.entries.length≤11
 lenR:a.rates.length < 1000000
 rate:∀ x,0≤Abu a.rates x∧Abu a.rates x≤100
 unit:∀ j,j < t.length→0≤t.getD j 0∧t.getD j 0≤50
 pence:∀ j,j < a.entries.length→-100000≤(A9 a.entries j).pence∧(A9 a.entries j).pence≤100000
theorem Jx {u r:Int} (h1:0≤u) (h2:u≤50) (h3:0≤r) (h4:r≤100):0≤u * r∧u * r≤5000:=by
 refine ⟨Int.mul_nonneg h1 h3,?_⟩
 have:=Int.mul_le_mul h2 h4 h3 (by omega)
 omega
end AM.Dty
end
/- The program: an account is played. -/
section
namespace AM.Dty
open Go AM AM.Duty AM.Try Go.Proofs
open Nat renaming reduceLT→sA,reduceAdd→sB,reduceMul→sC,reduceSub→sD,reduceLeDiff→sE,reduceEqDiff→sF,reduceBEq→sG
open Int renaming reduceAdd→sH,reduceSub→sI,reduceMul→sJ,reduceLT→sK,reduceLE→sL,reduceNeg→sM,reduceToNat→sN,reduceEq→sO
set_option maxRecDepth 100000
set_option maxHeartbeats 16000000
def Nz (rate:Int) (e:Bo) (u:Int) (w:Int × Int):(Int × Int) × Bool:=
  if e.kind=0 then ((w.1+u * rate,w.2+u),true)
  else if e.kind=1 then ((w.1 - e.pence,w.2),true)
  else if e.kind=2 then ((w.1 - u * rate,w.2 - u),decide (0≤w.2 - u))
  else (w,decide (w.1=e.pence))
def Er (ask:Bool) (rate day:Int) (e:Bo) (u:Int) (w:Int × Int):(Int × Int) × Bool:=
  if ¬ e.day=day then (w,true) else if e.kind=3∧ask=false then (w,true) else Nz rate e u w
def Hk (ask:Bool) (rate day:Int):List Bo→List Int→Int × Int→Option (Int × Int)
  | e :: es,u :: us,w=>if (Er ask rate day e u w).2=true then Hk ask rate day es us (Er ask rate day e u w).1 else none
  | _,_,w=>some w
theorem Xb {ask:Bool} {rate day:Int} {es:List Bo} {t:List Int} {j:Nat} {w:Int × Int} (h1:j < es.length) (h2:j < t.length):Hk ask rate day (es.drop j) (t.drop j) w=if (Er ask rate day (A9 es j) (t.getD j 0) w).2=true then Hk ask rate day (es.drop (j+1)) (t.drop (j+1)) (Er ask rate day (A9 es j) (t.getD j 0) w).1 else none:=by
  rw [Gi (d:=default) h1,Gi (d:=0) h2]; rfl
theorem Ajk {ask:Bool} {rate day:Int} {es:List Bo} {t:List Int} {j:Nat} {w:Int × Int} (h:es.length≤j):Hk ask rate day (es.drop j) (t.drop j) w=some w:=by
  rw [List.drop_of_length_le h]; rfl
def N1 (a:Acc) (w:Int × Int):Int × Int:=(w.1+Ab4 a.interest w.1,w.2)
def Fg (a:Acc) (paid:List Int) (day:Nat) (w:Int × Int):Int × Int:=if (day:Int) ∈ paid then (w.1 - a.purse,w.2) else w
def D4 (a:Acc) (t paid:List Int) (ask:Bool):Nat→Nat→Int × Int→List Int × Bool
  | 0,_,_=>([],true)
  | c+1,day,w=>match Hk ask (B5 day a.rates 0) day a.entries t (N1 a w) with
    | none=>([],false)
    | some v=>((Fg a paid day v).1 :: (D4 a t paid ask c (day+1) (Fg a paid day v)).1,(D4 a t paid ask c (day+1) (Fg a paid day v)).2)
theorem Jc (a:Acc) (t paid:List Int) (ask:Bool) (c day:Nat) (w:Int × Int):D4 a t paid ask (c+1) day w=match Hk ask (B5 day a.rates 0) day a.entries t (N1 a w) with
    | none=>([],false)
    | some v=>((Fg a paid day v).1 :: (D4 a t paid ask c (day+1) (Fg a paid day v)).1,(D4 a t paid ask c (day+1) (Fg a paid day v)).2):=rfl
def Bq (a:Acc) (t paid:List Int) (ask:Bool):List Int × Bool:=D4 a t paid ask (a.last+1).toNat 0 (0,0)
def pad (l:List Int):List Int:=l++List.replicate (12 - l.length) 0
theorem Fa {l:List Int} (h:l.length≤12):(pad l).length=12:=by simp [pad]; omega
structure Akl (a:Acc) (t:List Int):Prop where
  last0:0≤a.last
  last1:a.last≤11
  int0:0≤a.interest
  int1:a.interest≤200
  purse0:0≤a.purse
  purse1:a.purse≤100000
  len:t.length=a.entries.length
  lenE:a.entries.length≤8
  lenR:a.rates.length < 1000000
  rate:∀ x,0≤B5 x a.rates 0∧B5 x a.rates 0≤100
  unit:∀ j,j < t.length→0≤t.getD j 0∧t.getD j 0≤50
  ent:∀ j,j < a.entries.length→(0≤(A9 a.entries j).kind∧(A9 a.entries j).kind≤3)∧(-100000≤(A9 a.entries j).pence∧(A9 a.entries j).pence≤100000)∧(0≤(A9 a.entries j).lo∧(A9 a.entries j).lo≤50)∧(0≤(A9 a.entries j).hi∧(A9 a.entries j).hi≤50)∧0≤(A9 a.entries j).day∧(A9 a.entries j).day≤11
abbrev Agv (k:Int):AV:=.fn (.func (200+k.toNat)) [] []
theorem Ame {a:Acc} {d u:Int} {w m:Nat} {os:Nat→Option AO} {e:Bo} {n:Int} {bd:Nat} (hl:a.rates.length < 1000000) (hr:(kM e n).all inR=true) (hk:0≤e.kind∧e.kind≤3) (hb1:-1000000000000000000≤d∧d≤1000000000000000000) (hp:-100000≤e.pence∧e.pence≤100000) (hb3:-1000000000000000000≤u∧u≤1000000000000000000) (hn:0≤n∧n≤50) (hra:0≤B5 e.day a.rates 0∧B5 e.day a.rates 0≤100)
    (hw:os w=some (.cells (cW a d u m))) (hm:os m=some (.obj (Mc 6 (Dw a.rates)))) :
    Bm Try.prog bd (Agv e.kind) [.ptr w 0,avM e n] os fun res os'=>res=bl (Nz (B5 e.day a.rates 0) e n (d,u)).2∧os'=upd os w (some (.cells (cW a (Nz (B5 e.day a.rates 0) e n (d,u)).1.1 (Nz (B5 e.day a.rates 0) e n (d,u)).1.2 m))):=by
  have hwo:=Jx hn.1 hn.2 hra.1 hra.2
  have hwr:Dw a.rates (kM e n)=n * B5 e.day a.rates 0:=Gk (by omega) (by omega)
  have hk4:e.kind=0∨e.kind=1∨e.kind=2∨e.kind=3:=by omega
  rcases hk4 with h | h | h | h
  · rw [h]
    refine Bm.mono (c99 (e:=e) (n:=n) hl hr hb1 (by rw [hwr]; omega) hb3 (by omega) hw hm) ?_
    rintro res os' ⟨rfl,rfl⟩
    simp [Nz,h,hwr]
  · rw [h]
    refine Bm.mono (Bb3 (e:=e) (n:=n) hb1 (by omega) hw hm) ?_
    rintro res os' ⟨rfl,rfl⟩
    simp [Nz,h]
  · rw [h]
    refine Bm.mono (Bap (e:=e) (n:=n) hl hr hb1 (by rw [hwr]; omega) hb3 (by omega) hw hm) ?_
    rintro res os' ⟨rfl,rfl⟩
    simp [Nz,h,hwr]
  · rw [h]
    refine Bm.mono (Azs (e:=e) (n:=n) hw hm) ?_
    rintro res os' ⟨rfl,rfl⟩
    simp only [Nz,h,Int.reduceEq,if_false,true_and]
    refine (funext fun k=>?_)
    by_cases e:k=w
    · subst e; rw [Ak,hw]
    · rw [Ad e]
theorem Qi {esz:Nat→Nat} {ea:Nat→Option Bool} {k:Int} (hz:esz 285=1) (he:ea 285=some true) (h0:0≤k) (h3:k≤3):R0 esz ea (.agg [.fn (.func 200) [] [],.fn (.func 201) [] [],.fn (.func 202) [] [],.fn (.func 203) [] []]) (.arr 4 285) (i64 k)=some (.pure (.agg [Agv k])):=by
  have hk4:k=0∨k=1∨k=2∨k=3:=by omega
  simp only [R0,he,hz]
  rcases hk4 with rfl | rfl | rfl | rfl <;> rfl
def inP (b c:Int) (w:Int × Int):Prop:=-b≤w.1∧w.1≤b∧-c≤w.2∧w.2≤c
theorem Aps {rate u b c:Int} {e:Bo} {w:Int × Int} (h:inP b c w) (hw:0≤u * rate∧u * rate≤5000) (hu:0≤u∧u≤50) (hp:-100000≤e.pence∧e.pence≤100000):inP (b+100000) (c+50) (Nz rate e u w).1:=by
  unfold inP at *
  unfold Nz
  split
  · simp only []; omega
  · split
    · simp only []; omega
    · split
      · simp only []; omega
      · simp only []; omega
theorem F5 {b b' c c':Int} {w:Int × Int} (h:inP b c w) (hb:b≤b') (hc:c≤c'):inP b' c' w:=by unfold inP at *; omega
theorem Z5 {ask:Bool} {rate day u b c:Int} {e:Bo} {w:Int × Int} (h:inP b c w) (hw:0≤u * rate∧u * rate≤5000) (hu:0≤u∧u≤50) (hp:-100000≤e.pence∧e.pence≤100000):inP (b+100000) (c+50) (Er ask rate day e u w).1:=by
  unfold Er
  split
  · exact F5 h (by omega) (by omega)
  · split
    · exact F5 h (by omega) (by omega)
    · exact Aps h hw hu hp
theorem Jz {acc:List Int} {v:Int} (h:acc.length < 12):(pad acc).set acc.length v=pad (acc++[v]):=by
  unfold pad
  rw [List.set_append_right _ _ (by omega),Nat.sub_self]
  have:12 - acc.length=(12 - (acc++[v]).length)+1:=by simp; omega
  rw [this,List.replicate_succ,List.set_cons_zero]
  simp
theorem Qt {α:Type}:∀ (vs l:List α) (k:Nat),k+vs.length=l.length→Bd l k vs=l.take k++vs
  | [],l,k,h=>by simp only [Bd,List.append_nil]; rw [List.take_of_length_le (by simpa using Nat.le_of_eq h.symm)]
  | v :: vs,l,k,h=>by
    simp only [List.length_cons] at h
    simp only [Bd]
    rw [Qt vs (l.set k v) (k+1) (by simp; omega)]
    rw [List.take_succ_eq_append_getElem (by simp; omega)]
    simp [List.take_set_of_le]
theorem Dn {α:Type} {vs l:List α} (h:vs.length=l.length):Bd l 0 vs=vs:=by
  rw [Qt vs l 0 (by omega)]; rfl
theorem Zp (l:List Int):(AV.agg (l.map i64)).isP=true:=by
  show AV.isP.isPL (l.map i64)=true
  induction l with
  | nil=>rfl
  | cons x l ih=>show (true&&AV.isP.isPL (l.map i64))=true; rw [ih]; rfl
theorem Amn (l:List Int) (b:Bool):(AV.tup [.agg (l.map i64),bl b]).isP=true:=by
  show ((AV.agg (l.map i64)).isP&&(true&&true))=true
  rw [Zp]; rfl
theorem Dg {os:Nat→Option AO}:∀ l:List Int,H2 os (l.map i64)=some (l.map i64)
  | []=>rfl
  | x :: l=>by show (match Fe os (i64 x),H2 os (l.map i64) with | some y,some ys=>some (y :: ys) | _,_=>none)=_; rw [Dg l]; rfl
theorem Dl {ks:List Nat}:∀ l:List Int,nmL ks (l.map i64)=true
  | []=>rfl
  | x :: l=>by show (true&&nmL ks (l.map i64))=true; rw [Dl l]; rfl
theorem Acr {a:Acc} {w:Int × Int} {b c:Int} (h1:0≤a.interest) (h2:a.interest≤200) (h:inP b c w):inP (2 * b) c (N1 a w):=by
  have:=Wo (d:=w.1) h1 h2
  unfold inP N1 at *
  simp only []
  omega
theorem Ajl {a:Acc} {paid:List Int} {day:Nat} {w:Int × Int} {b c:Int} (h1:0≤a.purse) (h2:a.purse≤100000) (h:inP b c w):inP (b+100000) c (Fg a paid day w):=by
  unfold Fg
  split
  · unfold inP at *; simp only []; omega
  · exact F5 h (by omega) (by omega)
theorem L9 {a:Acc} {t paid acc:List Int} {ask:Bool} {w v:Int × Int} (hd:Hk ask (B5 acc.length a.rates 0) acc.length a.entries t (N1 a w)=some v) {j:Nat} (hj:j≤8) (hv:inP (2 * bnd acc.length+100000 * (j:Int)) (600 * (acc.length:Int)+50 * (j:Int)) v) (hp0:0≤a.purse) (hp1:a.purse≤100000) (hk:(acc.length:Int)≤a.last) (h0:0≤a.last)
    (hr1:acc++(D4 a t paid ask ((a.last+1).toNat - acc.length) acc.length w).1=(Bq a t paid ask).1) (hr2:(D4 a t paid ask ((a.last+1).toNat - acc.length) acc.length w).2=(Bq a t paid ask).2) :
    ((acc++[(Fg a paid acc.length v).1]).length:Int)≤a.last+1∧inP (bnd (acc++[(Fg a paid acc.length v).1]).length) (600 * ((acc++[(Fg a paid acc.length v).1]).length:Int)) (Fg a paid acc.length v) ∧
    acc++[(Fg a paid acc.length v).1]++(D4 a t paid ask ((a.last+1).toNat - (acc++[(Fg a paid acc.length v).1]).length) (acc++[(Fg a paid acc.length v).1]).length (Fg a paid acc.length v)).1=(Bq a t paid ask).1 ∧
    (D4 a t paid ask ((a.last+1).toNat - (acc++[(Fg a paid acc.length v).1]).length) (acc++[(Fg a paid acc.length v).1]).length (Fg a paid acc.length v)).2=(Bq a t paid ask).2:=by
  have key:(a.last+1).toNat - acc.length=((a.last+1).toNat - (acc.length+1))+1:=by omega
  have hl:(acc++[(Fg a paid acc.length v).1]).length=acc.length+1:=by simp
  have e:=Jc a t paid ask ((a.last+1).toNat - (acc.length+1)) acc.length w
  rw [hd] at e
  rw [key,e] at hr1 hr2
  rw [hl]
  refine ⟨by omega,?_,by rw [← hr1]; simp,hr2⟩
  have:=Ajl (paid:=paid) (day:=acc.length) hp0 hp1 hv
  exact F5 this (by simp only [bnd]; omega) (by omega)
theorem Pf {a:Acc} {t paid acc:List Int} {ask:Bool} {w:Int × Int} (hd:Hk ask (B5 acc.length a.rates 0) acc.length a.entries t (N1 a w)=none) (hk:(acc.length:Int)≤a.last) (h0:0≤a.last)
    (hr1:acc++(D4 a t paid ask ((a.last+1).toNat - acc.length) acc.length w).1=(Bq a t paid ask).1) (hr2:(D4 a t paid ask ((a.last+1).toNat - acc.length) acc.length w).2=(Bq a t paid ask).2) :
    (Bq a t paid ask).1=acc∧(Bq a t paid ask).2=false:=by
  have key:(a.last+1).toNat - acc.length=((a.last+1).toNat - (acc.length+1))+1:=by omega
  have e:=Jc a t paid ask ((a.last+1).toNat - (acc.length+1)) acc.length w
  rw [hd] at e
  rw [key,e] at hr1 hr2
  exact ⟨by rw [← hr1]; simp,hr2.symm⟩
theorem Rr {a:Acc} {t paid acc:List Int} {ask:Bool} {w:Int × Int} (hk:¬ (acc.length:Int) < a.last+1)
    (hr1:acc++(D4 a t paid ask ((a.last+1).toNat - acc.length) acc.length w).1=(Bq a t paid ask).1) (hr2:(D4 a t paid ask ((a.last+1).toNat - acc.length) acc.length w).2=(Bq a t paid ask).2) :
    (Bq a t paid ask).1=acc∧(Bq a t paid ask).2=true:=by
  have key:(a.last+1).toNat - acc.length=0:=by omega
  rw [key] at hr1 hr2
  exact ⟨by rw [← hr1]; simp [D4],by rw [← hr2]; rfl⟩
theorem G6 {ask:Bool} {rate:Int} {day:Nat} {es:List Bo} {t:List Int} {j:Nat} {v:Int × Int} {R:Option (Int × Int)} {b c:Int} (hd:Hk ask rate day (es.drop j) (t.drop j) v=R) (hv:inP (b+100000 * (j:Int)) (c+50 * (j:Int)) v) (hw:0≤t.getD j 0 * rate∧t.getD j 0 * rate≤5000)
    (hu:0≤t.getD j 0∧t.getD j 0≤50) (hp:-100000≤(A9 es j).pence∧(A9 es j).pence≤100000) (h1:j < es.length) (h2:j < t.length) (hs:(Er ask rate day (A9 es j) (t.getD j 0) v).2=true) :
    j+1≤es.length∧inP (b+100000 * ((j+1:Nat):Int)) (c+50 * ((j+1:Nat):Int)) (Er ask rate day (A9 es j) (t.getD j 0) v).1∧Hk ask rate day (es.drop (j+1)) (t.drop (j+1)) (Er ask rate day (A9 es j) (t.getD j 0) v).1=R:=by
  rw [Xb h1 h2,if_pos hs] at hd
  refine ⟨h1,?_,hd⟩
  have e1:b+100000 * ((j+1:Nat):Int)=b+100000 * (j:Int)+100000:=by omega
  have e2:c+50 * ((j+1:Nat):Int)=c+50 * (j:Int)+50:=by omega
  rw [e1,e2]
  exact Z5 hv hw hu hp
theorem Rn {ask:Bool} {rate:Int} {day:Nat} {es:List Bo} {t:List Int} {j:Nat} {v:Int × Int} {R:Option (Int × Int)} (hd:Hk ask rate day (es.drop j) (t.drop j) v=R) (h1:j < es.length) (h2:j < t.length) (hs:(Er ask rate day (A9 es j) (t.getD j 0) v).2=false):R=none:=by
  rw [Xb h1 h2,if_neg (by rw [hs]; simp)] at hd
  exact hd.symm
theorem Ev {ask:Bool} {rate day u:Int} {e:Bo} {w:Int × Int} (h:¬ e.day=day∨(e.kind=3∧ask=false)):Er ask rate day e u w=(w,true):=by
  unfold Er
  split
  · rfl
  · rw [if_pos (by
                   rcases h with h | h; · exact absurd h (by assumption)
                   · exact h)]
theorem Wx {ask:Bool} {rate day u:Int} {e:Bo} {w:Int × Int} (h:e.day=day) (h2:¬ (e.kind=3∧ask=false)):Er ask rate day e u w=Nz rate e u w:=by
  unfold Er
  rw [if_neg (by omega),if_neg h2]
theorem Aok {e:Bo} {n:Int} (hk:0≤e.kind∧e.kind≤3) (hp:-100000≤e.pence∧e.pence≤100000) (hlo:0≤e.lo∧e.lo≤50) (hhi:0≤e.hi∧e.hi≤50) (hd:0≤e.day∧e.day≤11) (hn:0≤n∧n≤50):(kM e n).all inR=true:=by
  simp only [List.all_cons,List.all_nil,inR,Bool.and_true,Bool.and_eq_true,decide_eq_true_eq]; omega
theorem Mo {acc:List Int} (h:acc.length≤12):List.take 12 (List.map i64 (pad acc))=List.map i64 (pad acc):=List.take_of_length_le (by rw [List.length_map,Fa h]; exact Nat.le_refl _)
theorem Xp {ask:Bool} {rate day:Int} {es:List Bo} {t:List Int} {j:Nat} {v:Int × Int} {R:Option (Int × Int)} (h:es.length≤j) (hd:Hk ask rate day (es.drop j) (t.drop j) v=R):R=some v:=by
  rw [Ajk h] at hd; exact hd.symm
theorem Qj {a:Acc} {w:Int × Int} (h:0 < w.1):N1 a w=(w.1+(w.1 * a.interest+10000 - 1) / 10000,w.2):=by
  unfold N1 Ab4; rw [if_neg (by omega),show w.1 * a.interest+10000 - 1=w.1 * a.interest+9999 by omega]
theorem Zy {a:Acc} {w:Int × Int} (h:¬ 0 < w.1):N1 a w=w:=by
  unfold N1 Ab4; rw [if_pos (by omega)]; simp
theorem S2 {a:Acc} {paid:List Int} {day:Nat} {w:Int × Int} (h:(day:Int) ∈ paid):Fg a paid day w=(w.1 - a.purse,w.2):=if_pos h
theorem P9 {a:Acc} {paid:List Int} {day:Nat} {w:Int × Int} (h:¬ (day:Int) ∈ paid):Fg a paid day w=w:=if_neg h
theorem c59 (a:Acc) (t paid:List Int) (ask:Bool) (hf:Akl a t) (hp:paid.length < 1000000):Bf Try.prog 125 [avA a,isl t,isl paid,bl ask] (.tup [.agg ((pad (Bq a t paid ask).1).map i64),bl (Bq a t paid ask).2]):=by
  refine Au (v:=[]) (q:=[]) (N:=103) (rs:=[.cell 8 181,.tmp 9]) Try.func125 rfl rfl rfl rfl (Amn _ _) ?_
  have hb0:=Ack
  obtain ⟨last0,last1,int0,int1,purse0,purse1,hlen,lenE,lenR,hrate,hunit,hent⟩:=hf
  refine Aa fun K1 hK1=>?_
  refine Ac ?_
  simp (disch:=omega) only [amL,amT,sA,sB,sF,↓reduceIte]
  refine hK1 _ ?_
  refine Aa fun K2 hK2=>?_
  refine Ac ?_
  simp (disch:=omega) only [amL,amT,sA,sB,sF,↓reduceIte]
  refine Afm 6 (Dw a.rates) (by decide) rfl ?_
  simp (disch:=omega) only [amL,amT,sA,sB,sE,sF,↓reduceIte]
  all_goals
   skip
   refine hK2 _ ?_
   refine Aa fun K3 hK3=>?_
   refine Aa fun K4 hK4=>?_
   refine Ac ?_
   simp (disch:=omega) only [amL,amT,sA,sF,↓reduceIte,reduceCtorEq]
   refine hK4 _ ?_
   refine Ai ?_
   skip
   refine A7 (α:=List Int × (Int × Int)) (fun x=>⟨T [(1,isl t),(2,isl paid),(3,bl ask),(4,.ptr 4 0),(8,.ptr 8 0),(10,.ptr 17 0),(20,i64 (a.last+1)),(21,i64 x.1.length)],O [(4,.cells (cA a)),(8,.cells ((pad x.1).map i64)),(15,.obj (Mc 6 (Dw a.rates))),(17,.cells (cW a x.2.1 x.2.2 15))]⟩) (fun x=>(a.last+1).toNat - x.1.length) (fun x=>(x.1.length:Int)≤a.last+1∧inP (bnd x.1.length) (600 * (x.1.length:Int)) x.2∧x.1++(D4 a t paid ask ((a.last+1).toNat - x.1.length) x.1.length x.2).1=(Bq a t paid ask).1∧(D4 a t paid ask ((a.last+1).toNat - x.1.length) x.1.length x.2).2=(Bq a t paid ask).2) ([],(0,0)) ?_ ?_ (fun x hx5 K5 hK5=>?_)
   · exact ⟨by simp; omega,by simp [bnd,inP],rfl,rfl⟩
   · refine B7 ?_ ?_ ?_ ?_ <;> (try simp (disch:=omega) only [Dl,amL,sF,sG,↓reduceIte,reduceCtorEq]) <;> (first | done | rfl)
   obtain ⟨acc,w⟩:=x; dsimp only at hx5 ⊢; obtain ⟨hk,hw0,hr1,hr2⟩:=hx5; have hw:=hw0; unfold inP at hw; have hbh:=Aj3 (d:=acc.length) (by omega)
   refine Aa fun K6 hK6=>?_
   refine Ac ?_
   simp (disch:=omega) only [amL,amT,sA,sF,↓reduceIte]
   refine hK6 _ ?_
   refine Aa fun K7 hK7=>?_
   refine Ag rfl (fun h=>?_) (fun h=>?_)
   ·first
    | exact Bool.noConfusion h
    |skip
     try simp only [decide_eq_true_eq] at h
     refine Aj ?_
     refine hK7 _ ?_
     refine Aa fun K8 hK8=>?_
     refine Ai ?_
     refine Aa fun K9 hK9=>?_
     refine Ac ?_
     simp (disch:=omega) only [amL,sA,sF,↓reduceIte]
     refine hK9 _ ?_
     refine Aa fun K10 hK10=>?_
     refine Aa fun K11 hK11=>?_
     refine Ac ?_
     simp (disch:=omega) only [amL,amT,sA,sF,↓reduceIte,reduceCtorEq]
     refine hK11 _ ?_
     refine Ag rfl (fun h=>?_) (fun h=>?_)
     ·first
      | exact Bool.noConfusion h
      |skip
       try simp only [decide_eq_true_eq] at h
       refine Bk (by kernel_rfl) (by kernel_rfl) ?_
       have hi1:=Wo (d:=w.1) int0 int1
       have hm2:=Ae3 (show 0≤w.1 by omega) (show w.1≤1000000000000 by omega) int0 (show a.interest≤1000 by omega)
       simp (disch:=omega) only [amL,amT,sA,sB,sE,sF,sO,↓reduceIte,reduceCtorEq]
       refine hK10 _ ?_
       refine Aa fun K12 hK12=>?_
       refine Aa fun K13 hK13=>?_
       refine Ac ?_
       simp (disch:=omega) only [amL,amT,sA,sF,↓reduceIte,reduceCtorEq]
       refine hK13 _ ?_
       refine Ai ?_
       skip
       refine A7 (α:=Nat × (Int × Int)) (fun y=>⟨T [(1,isl t),(2,isl paid),(3,bl ask),(4,.ptr 4 0),(8,.ptr 8 0),(10,.ptr 17 0),(20,i64 (a.last+1)),(21,i64 acc.length),(11,i64 acc.length),(47,.p (.sl (a.entries.map Lb))),(48,i64 a.entries.length),(49,i64 y.1)],O [(4,.cells (cA a)),(8,.cells ((pad acc).map i64)),(15,.obj (Mc 6 (Dw a.rates))),(17,.cells (cW a y.2.1 y.2.2 15))]⟩) (fun y=>a.entries.length - y.1) (fun y=>y.1≤a.entries.length∧inP (2 * bnd acc.length+100000 * (y.1:Int)) (600 * (acc.length:Int)+50 * (y.1:Int)) y.2∧Hk ask (B5 acc.length a.rates 0) acc.length (a.entries.drop y.1) (t.drop y.1) y.2=Hk ask (B5 acc.length a.rates 0) acc.length a.entries t (N1 a w)) (0,N1 a w) ?_ ?_ (fun y hx14 K14 hK14=>?_)
       · exact ⟨by simp,F5 (Acr int0 int1 hw0) (by simp) (by simp),by simp⟩
       · refine B7 ?_ ?_ ?_ ?_ <;> (try simp (disch:=omega) only [Dl,amL,sF,sG,↓reduceIte]) <;> (first | done | (rw [Qj (by omega)]; done) | (rw [Zy (by omega)]; done) | (rw [Qj (by omega)]; congr 3; omega) | (omega))
       obtain ⟨j,v⟩:=y; dsimp only at hx14 ⊢; obtain ⟨hj,hv0,hd⟩:=hx14; have hv:=hv0; unfold inP at hv
       refine Aa fun K15 hK15=>?_
       refine Ac ?_
       simp (disch:=omega) only [amL,amT,sA,sF,↓reduceIte]
       refine hK15 _ ?_
       refine Aa fun K16 hK16=>?_
       refine Ag rfl (fun h=>?_) (fun h=>?_)
       ·first
        | exact Bool.noConfusion h
        |skip
         try simp only [decide_eq_true_eq] at h
         refine Aj ?_
         refine hK16 _ ?_
         refine Aa fun K17 hK17=>?_
         refine Ai ?_
         refine Aa fun K18 hK18=>?_
         refine Ac ?_
         simp (disch:=omega) only [B9,amL,amT,sA,sB,sF,↓reduceIte]
         refine hK18 _ ?_
         refine Aa fun K19 hK19=>?_
         refine Aa fun K20 hK20=>?_
         refine Ac ?_
         have hj2:j < a.entries.length:=by omega
         obtain ⟨hk3,hpe,hlo,hhi,hda⟩:=hent j hj2
         have hu:=hunit j (by omega)
         have hra:=hrate acc.length
         have hwo:=Jx hu.1 hu.2 hra.1 hra.2
         simp (disch:=omega) only [ne_eq,amL,amT,sA,sF,↓reduceIte,reduceCtorEq]
         repeat' first | (refine B2 (fun h=>?_) (fun h=>?_) <;> simp (disch:=omega) only [h,amL,amT,sA,sF,↓reduceIte,reduceCtorEq]) | (refine Ba (fun h=>?_) (fun h=>?_) <;> simp (disch:=omega) only [h,ne_eq,B9,Dl,Dg,G1,amL,amT,sA,sB,sC,sD,sE,sF,sG,sH,sI,sJ,sK,sL,sM,sN,sO,↓reduceIte,reduceCtorEq])
         all_goals
          skip
          refine hK20 _ ?_
          refine Ag rfl (fun h=>?_) (fun h=>?_)
          ·first
           | exact Bool.noConfusion h
           |skip
            try simp only [Bool.not_eq_true'] at h
            refine Bg ?_
            refine hK17 _ ?_
            refine Ac ?_
            simp (disch:=omega) only [amL,amT,sA,sF,↓reduceIte]
            refine hK14 (j+1,(Er ask (B5 acc.length a.rates 0) acc.length (A9 a.entries j) (t.getD j 0) v).1) _ ?_ ?_ (B7 ?_ ?_ ?_ ?_)
            all_goals (try simp (disch:=omega) only [Dl,amL,sF,sG,↓reduceIte])
            all_goals first | omega | exact G6 hd hv0 hwo hu hpe (by omega) (by omega) (by rw [Ev (by first | (left; omega) | (right; exact ⟨by assumption,by assumption⟩))]) | exact G6 hd hv0 hwo hu hpe (by omega) (by omega) (by assumption) | (rw [Ev (by first | (left; omega) | (right; exact ⟨by assumption,by assumption⟩))]; done) | (omega)
          ·first
           | exact Bool.noConfusion h
           |skip
            try simp only [Bool.not_eq_false'] at h
            refine Aj ?_
            refine hK19 _ ?_
            refine Aa fun K21 hK21=>?_
            refine Bk (by kernel_rfl) (by kernel_rfl) ?_
            have hday:(A9 a.entries j).day=(acc.length:Int):=by omega
            have hna:¬ ((A9 a.entries j).kind=3∧ask=false):=by
              rintro ⟨g1,g2⟩
              first | omega | (subst g2; contradiction)
            have hix:R0 (fun e=>(Ab Try.prog e).sz) (fun e=>(Ab Try.prog e).agg) (.agg [.fn (.func 200) [] [],.fn (.func 201) [] [],.fn (.func 202) [] [],.fn (.func 203) [] []]) (.arr 4 285) (i64 (A9 a.entries j).kind)=some (.pure (.agg [Agv (A9 a.entries j).kind])):=Qi (by simp only [Qw]) (by simp only [Qw]; rfl) hk3.1 hk3.2
            have hix3:R0 (fun e=>(Ab Try.prog e).sz) (fun e=>(Ab Try.prog e).agg) (.agg [.fn (.func 200) [] [],.fn (.func 201) [] [],.fn (.func 202) [] [],.fn (.func 203) [] []]) (.arr 4 285) (i64 3)=some (.pure (.agg [Agv 3])):=Qi (by simp only [Qw]) (by simp only [Qw]; rfl) (by omega) (by omega)
            have he3:(A9 a.entries j).kind=3→({ kind:=3,day:=(A9 a.entries j).day,lo:=(A9 a.entries j).lo,hi:=(A9 a.entries j).hi,pence:=(A9 a.entries j).pence }:Bo)=A9 a.entries j:=fun h=>by rw [← h]
            have hkr:=Aok hk3 hpe hlo hhi hda hu
            have hrw:Nz (B5 (A9 a.entries j).day a.rates 0) (A9 a.entries j) (t.getD j 0) (v.1,v.2)=Er ask (B5 acc.length a.rates 0) acc.length (A9 a.entries j) (t.getD j 0) v:=by rw [Wx hday hna,hday]
            have hrw3:(A9 a.entries j).kind=3→Nz (B5 (A9 a.entries j).day a.rates 0) { kind:=3,day:=(A9 a.entries j).day,lo:=(A9 a.entries j).lo,hi:=(A9 a.entries j).hi,pence:=(A9 a.entries j).pence } (t.getD j 0) (v.1,v.2)=Er ask (B5 acc.length a.rates 0) acc.length (A9 a.entries j) (t.getD j 0) v:=fun h=>by rw [he3 h]; exact hrw
            simp (disch:=omega) only [amL]
            repeat' first | (refine Am (by kernel_rfl) rfl (c82) (by first | exact .inl rfl | exact .inr (.inl rfl)) ?_ ; simp (disch:=omega) only [hix,hix3,G1,amL,amT,sA,sB,sE,sF,↓reduceIte,reduceCtorEq])
            try (have h3:(A9 a.entries j).kind=3:=by omega)
            first | (refine Be [(1,isl t),(2,isl paid),(3,bl ask),(4,.ptr 4 0),(8,.ptr 8 0),(10,.ptr 17 0),(20,i64 (a.last+1)),(21,i64 acc.length),(11,i64 acc.length),(47,.p (.sl (a.entries.map Lb))),(48,i64 a.entries.length),(49,i64 j)] (by decide) (Ame (w:=17) (m:=15) (d:=v.1) (u:=v.2) (e:=A9 a.entries j) (n:=t.getD j 0) (bd:=103) lenR hkr hk3 (by omega) hpe (by omega) hu (hrate _) rfl rfl) (Dj rfl) (by decide) (fun res os2 hR hcl2 hlv2=>?_); obtain ⟨rfl,rfl⟩:=hR; simp only [hrw]) | (refine Be [(1,isl t),(2,isl paid),(3,bl ask),(4,.ptr 4 0),(8,.ptr 8 0),(10,.ptr 17 0),(20,i64 (a.last+1)),(21,i64 acc.length),(11,i64 acc.length),(47,.p (.sl (a.entries.map Lb))),(48,i64 a.entries.length),(49,i64 j)] (by decide) (Ame (w:=17) (m:=15) (d:=v.1) (u:=v.2) (e:=⟨3,(A9 a.entries j).day,(A9 a.entries j).lo,(A9 a.entries j).hi,(A9 a.entries j).pence⟩) (n:=t.getD j 0) (bd:=103) lenR (by rw [he3 h3]; exact hkr) ⟨show (0:Int)≤3 by omega,show (3:Int)≤3 by omega⟩ (by omega) hpe (by omega) hu (hrate _) rfl rfl) (Dj rfl) (by decide) (fun res os2 hR hcl2 hlv2=>?_); obtain ⟨rfl,rfl⟩:=hR; simp only [hrw3 h3])
            simp (disch:=omega) only [amL,sA,sF,↓reduceIte]
            refine hK21 _ ?_
            refine Ag rfl (fun h=>?_) (fun h=>?_)
            ·first
             | exact Bool.noConfusion h
             |skip
              try simp only [Bool.not_eq_true'] at h
              refine Aa fun K22 hK22=>?_
              refine Ac ?_
              have hpl:=Fa (l:=acc) (by omega)
              have htk:=Mo (acc:=acc) (by omega)
              have hpc:=Dn (vs:=List.map i64 (pad acc)) (l:=List.map i64 (pad acc)) rfl
              simp (disch:=omega) only [hpl,htk,hpc,amL,amT,sA,sF,↓reduceIte]
              refine hK22 _ ?_
              refine Ae ?_
              try simp (disch:=omega) only [amL,amT,sF,↓reduceIte]
              simp only [htk,Dg,Option.map_some,Nj]
              first | (obtain ⟨g1,g2⟩:=Pf (Rn hd hj2 (by omega) (by assumption)) (by omega) last0 hr1 hr2; rw [g1,g2]; done) | (obtain ⟨g1,g2⟩:=Rr (by omega) hr1 hr2; rw [g1,g2]; done) | (omega)
            ·first
             | exact Bool.noConfusion h
             |skip
              try simp only [Bool.not_eq_false'] at h
              refine Aj ?_
              refine hK17 _ ?_
              refine Ac ?_
              simp (disch:=omega) only [amL,amT,sA,sF,↓reduceIte]
              refine hK14 (j+1,(Er ask (B5 acc.length a.rates 0) acc.length (A9 a.entries j) (t.getD j 0) v).1) _ ?_ ?_ (B7 ?_ ?_ ?_ ?_)
              all_goals (try simp (disch:=omega) only [Dl,amL,sF,sG,↓reduceIte])
              all_goals first | omega | exact G6 hd hv0 hwo hu hpe (by omega) (by omega) (by rw [Ev (by first | (left; omega) | (right; exact ⟨by assumption,by assumption⟩))]) | exact G6 hd hv0 hwo hu hpe (by omega) (by omega) (by assumption) | (rw [Ev (by first | (left; omega) | (right; exact ⟨by assumption,by assumption⟩))]; done) | (omega)
       ·first
        | exact Bool.noConfusion h
        |skip
         try simp only [decide_eq_false_iff_not] at h
         refine Bg ?_
         refine hK12 _ ?_
         refine Aa fun K23 hK23=>?_
         refine Aa fun K24 hK24=>?_
         refine Ac ?_
         have hd2:=Xp (by omega) hd
         simp (disch:=omega) only [amL,sA,sF,↓reduceIte]
         repeat' first | (refine Am (by kernel_rfl) rfl (c83 paid _ hp) (by first | exact .inl rfl | exact .inr (.inl rfl)) ?_ ; simp (disch:=omega) only [amL])
         refine hK24 _ ?_
         refine Ag rfl (fun h=>?_) (fun h=>?_)
         ·first
          | exact Bool.noConfusion h
          |skip
           try simp only [decide_eq_true_eq] at h
           refine Bk (by kernel_rfl) (by kernel_rfl) ?_
           simp (disch:=omega) only [amL,amT,sA,sB,sE,sF,↓reduceIte,reduceCtorEq]
           refine hK23 _ ?_
           refine Ac ?_
           have hpl:=Fa (l:=acc) (by omega)
           simp (disch:=omega) only [hpl,amL,amT,sA,sE,sF,sH,↓reduceIte,reduceCtorEq]
           refine hK8 _ ?_
           refine Ac ?_
           simp (disch:=omega) only [amL,amT,sA,sF,↓reduceIte]
           refine hK5 (acc++[(Fg a paid acc.length v).1],Fg a paid acc.length v) _ ?_ ?_ (B7 ?_ ?_ ?_ ?_)
           all_goals (try simp (disch:=omega) only [Dl,amL,sF,sG,↓reduceIte])
           all_goals first | exact L9 hd2 (j:=j) (by omega) hv0 purse0 purse1 (by omega) last0 hr1 hr2 | (rw [List.length_append]; rfl) | (simp; omega) | (rw [S2 h]; exact ⟨by rw [← Jz (by omega),List.map_set],rfl⟩) | (rw [P9 h]; exact ⟨by rw [← Jz (by omega),List.map_set],rfl⟩) | (omega)
         ·first
          | exact Bool.noConfusion h
          |skip
           try simp only [decide_eq_false_iff_not] at h
           refine Aj ?_
           refine hK23 _ ?_
           refine Ac ?_
           have hpl:=Fa (l:=acc) (by omega)
           simp (disch:=omega) only [hpl,amL,amT,sA,sE,sF,sH,↓reduceIte,reduceCtorEq]
           refine hK8 _ ?_
           refine Ac ?_
           simp (disch:=omega) only [amL,amT,sA,sF,↓reduceIte]
           refine hK5 (acc++[(Fg a paid acc.length v).1],Fg a paid acc.length v) _ ?_ ?_ (B7 ?_ ?_ ?_ ?_)
           all_goals (try simp (disch:=omega) only [Dl,amL,sF,sG,↓reduceIte])
           all_goals first | exact L9 hd2 (j:=j) (by omega) hv0 purse0 purse1 (by omega) last0 hr1 hr2 | (rw [List.length_append]; rfl) | (simp; omega) | (rw [S2 h]; exact ⟨by rw [← Jz (by omega),List.map_set],rfl⟩) | (rw [P9 h]; exact ⟨by rw [← Jz (by omega),List.map_set],rfl⟩) | (omega)
     ·first
      | exact Bool.noConfusion h
      |skip
       try simp only [decide_eq_false_iff_not] at h
       refine Aj ?_
       refine hK10 _ ?_
       refine Aa fun K25 hK25=>?_
       refine Aa fun K26 hK26=>?_
       refine Ac ?_
       simp (disch:=omega) only [amL,amT,sA,sF,↓reduceIte,reduceCtorEq]
       refine hK26 _ ?_
       refine Ai ?_
       skip
       refine A7 (α:=Nat × (Int × Int)) (fun y=>⟨T [(1,isl t),(2,isl paid),(3,bl ask),(4,.ptr 4 0),(8,.ptr 8 0),(10,.ptr 17 0),(20,i64 (a.last+1)),(21,i64 acc.length),(11,i64 acc.length),(47,.p (.sl (a.entries.map Lb))),(48,i64 a.entries.length),(49,i64 y.1)],O [(4,.cells (cA a)),(8,.cells ((pad acc).map i64)),(15,.obj (Mc 6 (Dw a.rates))),(17,.cells (cW a y.2.1 y.2.2 15))]⟩) (fun y=>a.entries.length - y.1) (fun y=>y.1≤a.entries.length∧inP (2 * bnd acc.length+100000 * (y.1:Int)) (600 * (acc.length:Int)+50 * (y.1:Int)) y.2∧Hk ask (B5 acc.length a.rates 0) acc.length (a.entries.drop y.1) (t.drop y.1) y.2=Hk ask (B5 acc.length a.rates 0) acc.length a.entries t (N1 a w)) (0,N1 a w) ?_ ?_ (fun y hx27 K27 hK27=>?_)
       · exact ⟨by simp,F5 (Acr int0 int1 hw0) (by simp) (by simp),by simp⟩
       · refine B7 ?_ ?_ ?_ ?_ <;> (try simp (disch:=omega) only [Dl,amL,sF,sG,↓reduceIte]) <;> (first | done | (rw [Qj (by omega)]; done) | (rw [Zy (by omega)]; done) | (rw [Qj (by omega)]; congr 3; omega) | (omega))
       obtain ⟨j,v⟩:=y; dsimp only at hx27 ⊢; obtain ⟨hj,hv0,hd⟩:=hx27; have hv:=hv0; unfold inP at hv
       refine Aa fun K28 hK28=>?_
       refine Ac ?_
       simp (disch:=omega) only [amL,amT,sA,sF,↓reduceIte]
       refine hK28 _ ?_
       refine Aa fun K29 hK29=>?_
       refine Ag rfl (fun h=>?_) (fun h=>?_)
       ·first
        | exact Bool.noConfusion h
        |skip
         try simp only [decide_eq_true_eq] at h
         refine Aj ?_
         refine hK29 _ ?_
         refine Aa fun K30 hK30=>?_
         refine Ai ?_
         refine Aa fun K31 hK31=>?_
         refine Ac ?_
         simp (disch:=omega) only [B9,amL,amT,sA,sB,sF,↓reduceIte]
         refine hK31 _ ?_
         refine Aa fun K32 hK32=>?_
         refine Aa fun K33 hK33=>?_
         refine Ac ?_
         have hj2:j < a.entries.length:=by omega
         obtain ⟨hk3,hpe,hlo,hhi,hda⟩:=hent j hj2
         have hu:=hunit j (by omega)
         have hra:=hrate acc.length
         have hwo:=Jx hu.1 hu.2 hra.1 hra.2
         simp (disch:=omega) only [ne_eq,amL,amT,sA,sF,↓reduceIte,reduceCtorEq]
         repeat' first | (refine B2 (fun h=>?_) (fun h=>?_) <;> simp (disch:=omega) only [h,amL,amT,sA,sF,↓reduceIte,reduceCtorEq]) | (refine Ba (fun h=>?_) (fun h=>?_) <;> simp (disch:=omega) only [h,ne_eq,B9,Dl,Dg,G1,amL,amT,sA,sB,sC,sD,sE,sF,sG,sH,sI,sJ,sK,sL,sM,sN,sO,↓reduceIte,reduceCtorEq])
         all_goals
          skip
          refine hK33 _ ?_
          refine Ag rfl (fun h=>?_) (fun h=>?_)
          ·first
           | exact Bool.noConfusion h
           |skip
            try simp only [Bool.not_eq_true'] at h
            refine Bg ?_
            refine hK30 _ ?_
            refine Ac ?_
            simp (disch:=omega) only [amL,amT,sA,sF,↓reduceIte]
            refine hK27 (j+1,(Er ask (B5 acc.length a.rates 0) acc.length (A9 a.entries j) (t.getD j 0) v).1) _ ?_ ?_ (B7 ?_ ?_ ?_ ?_)
            all_goals (try simp (disch:=omega) only [Dl,amL,sF,sG,↓reduceIte])
            all_goals first | omega | exact G6 hd hv0 hwo hu hpe (by omega) (by omega) (by rw [Ev (by first | (left; omega) | (right; exact ⟨by assumption,by assumption⟩))]) | exact G6 hd hv0 hwo hu hpe (by omega) (by omega) (by assumption) | (rw [Ev (by first | (left; omega) | (right; exact ⟨by assumption,by assumption⟩))]; done) | (omega)
          ·first
           | exact Bool.noConfusion h
           |skip
            try simp only [Bool.not_eq_false'] at h
            refine Aj ?_
            refine hK32 _ ?_
            refine Aa fun K34 hK34=>?_
            refine Bk (by kernel_rfl) (by kernel_rfl) ?_
            have hday:(A9 a.entries j).day=(acc.length:Int):=by omega
            have hna:¬ ((A9 a.entries j).kind=3∧ask=false):=by
              rintro ⟨g1,g2⟩
              first | omega | (subst g2; contradiction)
            have hix:R0 (fun e=>(Ab Try.prog e).sz) (fun e=>(Ab Try.prog e).agg) (.agg [.fn (.func 200) [] [],.fn (.func 201) [] [],.fn (.func 202) [] [],.fn (.func 203) [] []]) (.arr 4 285) (i64 (A9 a.entries j).kind)=some (.pure (.agg [Agv (A9 a.entries j).kind])):=Qi (by simp only [Qw]) (by simp only [Qw]; rfl) hk3.1 hk3.2
            have hix3:R0 (fun e=>(Ab Try.prog e).sz) (fun e=>(Ab Try.prog e).agg) (.agg [.fn (.func 200) [] [],.fn (.func 201) [] [],.fn (.func 202) [] [],.fn (.func 203) [] []]) (.arr 4 285) (i64 3)=some (.pure (.agg [Agv 3])):=Qi (by simp only [Qw]) (by simp only [Qw]; rfl) (by omega) (by omega)
            have he3:(A9 a.entries j).kind=3→({ kind:=3,day:=(A9 a.entries j).day,lo:=(A9 a.entries j).lo,hi:=(A9 a.entries j).hi,pence:=(A9 a.entries j).pence }:Bo)=A9 a.entries j:=fun h=>by rw [← h]
            have hkr:=Aok hk3 hpe hlo hhi hda hu
            have hrw:Nz (B5 (A9 a.entries j).day a.rates 0) (A9 a.entries j) (t.getD j 0) (v.1,v.2)=Er ask (B5 acc.length a.rates 0) acc.length (A9 a.entries j) (t.getD j 0) v:=by rw [Wx hday hna,hday]
            have hrw3:(A9 a.entries j).kind=3→Nz (B5 (A9 a.entries j).day a.rates 0) { kind:=3,day:=(A9 a.entries j).day,lo:=(A9 a.entries j).lo,hi:=(A9 a.entries j).hi,pence:=(A9 a.entries j).pence } (t.getD j 0) (v.1,v.2)=Er ask (B5 acc.length a.rates 0) acc.length (A9 a.entries j) (t.getD j 0) v:=fun h=>by rw [he3 h]; exact hrw
            simp (disch:=omega) only [amL]
            repeat' first | (refine Am (by kernel_rfl) rfl (c82) (by first | exact .inl rfl | exact .inr (.inl rfl)) ?_ ; simp (disch:=omega) only [hix,hix3,G1,amL,amT,sA,sB,sE,sF,↓reduceIte,reduceCtorEq])
            try (have h3:(A9 a.entries j).kind=3:=by omega)
            first | (refine Be [(1,isl t),(2,isl paid),(3,bl ask),(4,.ptr 4 0),(8,.ptr 8 0),(10,.ptr 17 0),(20,i64 (a.last+1)),(21,i64 acc.length),(11,i64 acc.length),(47,.p (.sl (a.entries.map Lb))),(48,i64 a.entries.length),(49,i64 j)] (by decide) (Ame (w:=17) (m:=15) (d:=v.1) (u:=v.2) (e:=A9 a.entries j) (n:=t.getD j 0) (bd:=103) lenR hkr hk3 (by omega) hpe (by omega) hu (hrate _) rfl rfl) (Dj rfl) (by decide) (fun res os2 hR hcl2 hlv2=>?_); obtain ⟨rfl,rfl⟩:=hR; simp only [hrw]) | (refine Be [(1,isl t),(2,isl paid),(3,bl ask),(4,.ptr 4 0),(8,.ptr 8 0),(10,.ptr 17 0),(20,i64 (a.last+1)),(21,i64 acc.length),(11,i64 acc.length),(47,.p (.sl (a.entries.map Lb))),(48,i64 a.entries.length),(49,i64 j)] (by decide) (Ame (w:=17) (m:=15) (d:=v.1) (u:=v.2) (e:=⟨3,(A9 a.entries j).day,(A9 a.entries j).lo,(A9 a.entries j).hi,(A9 a.entries j).pence⟩) (n:=t.getD j 0) (bd:=103) lenR (by rw [he3 h3]; exact hkr) ⟨show (0:Int)≤3 by omega,show (3:Int)≤3 by omega⟩ (by omega) hpe (by omega) hu (hrate _) rfl rfl) (Dj rfl) (by decide) (fun res os2 hR hcl2 hlv2=>?_); obtain ⟨rfl,rfl⟩:=hR; simp only [hrw3 h3])
            simp (disch:=omega) only [amL,sA,sF,↓reduceIte]
            refine hK34 _ ?_
            refine Ag rfl (fun h=>?_) (fun h=>?_)
            ·first
             | exact Bool.noConfusion h
             |skip
              try simp only [Bool.not_eq_true'] at h
              refine Aa fun K35 hK35=>?_
              refine Ac ?_
              have hpl:=Fa (l:=acc) (by omega)
              have htk:=Mo (acc:=acc) (by omega)
              have hpc:=Dn (vs:=List.map i64 (pad acc)) (l:=List.map i64 (pad acc)) rfl
              simp (disch:=omega) only [hpl,htk,hpc,amL,amT,sA,sF,↓reduceIte]
              refine hK35 _ ?_
              refine Ae ?_
              try simp (disch:=omega) only [amL,amT,sF,↓reduceIte]
              simp only [htk,Dg,Option.map_some,Nj]
              first | (obtain ⟨g1,g2⟩:=Pf (Rn hd hj2 (by omega) (by assumption)) (by omega) last0 hr1 hr2; rw [g1,g2]; done) | (obtain ⟨g1,g2⟩:=Rr (by omega) hr1 hr2; rw [g1,g2]; done) | (omega)
            ·first
             | exact Bool.noConfusion h
             |skip
              try simp only [Bool.not_eq_false'] at h
              refine Aj ?_
              refine hK30 _ ?_
              refine Ac ?_
              simp (disch:=omega) only [amL,amT,sA,sF,↓reduceIte]
              refine hK27 (j+1,(Er ask (B5 acc.length a.rates 0) acc.length (A9 a.entries j) (t.getD j 0) v).1) _ ?_ ?_ (B7 ?_ ?_ ?_ ?_)
              all_goals (try simp (disch:=omega) only [Dl,amL,sF,sG,↓reduceIte])
              all_goals first | omega | exact G6 hd hv0 hwo hu hpe (by omega) (by omega) (by rw [Ev (by first | (left; omega) | (right; exact ⟨by assumption,by assumption⟩))]) | exact G6 hd hv0 hwo hu hpe (by omega) (by omega) (by assumption) | (rw [Ev (by first | (left; omega) | (right; exact ⟨by assumption,by assumption⟩))]; done) | (omega)
       ·first
        | exact Bool.noConfusion h
        |skip
         try simp only [decide_eq_false_iff_not] at h
         refine Bg ?_
         refine hK25 _ ?_
         refine Aa fun K36 hK36=>?_
         refine Aa fun K37 hK37=>?_
         refine Ac ?_
         have hd2:=Xp (by omega) hd
         simp (disch:=omega) only [amL,sA,sF,↓reduceIte]
         repeat' first | (refine Am (by kernel_rfl) rfl (c83 paid _ hp) (by first | exact .inl rfl | exact .inr (.inl rfl)) ?_ ; simp (disch:=omega) only [amL])
         refine hK37 _ ?_
         refine Ag rfl (fun h=>?_) (fun h=>?_)
         ·first
          | exact Bool.noConfusion h
          |skip
           try simp only [decide_eq_true_eq] at h
           refine Bk (by kernel_rfl) (by kernel_rfl) ?_
           simp (disch:=omega) only [amL,amT,sA,sB,sE,sF,↓reduceIte,reduceCtorEq]
           refine hK36 _ ?_
           refine Ac ?_
           have hpl:=Fa (l:=acc) (by omega)
           simp (disch:=omega) only [hpl,amL,amT,sA,sE,sF,sH,↓reduceIte,reduceCtorEq]
           refine hK8 _ ?_
           refine Ac ?_
           simp (disch:=omega) only [amL,amT,sA,sF,↓reduceIte]
           refine hK5 (acc++[(Fg a paid acc.length v).1],Fg a paid acc.length v) _ ?_ ?_ (B7 ?_ ?_ ?_ ?_)
           all_goals (try simp (disch:=omega) only [Dl,amL,sF,sG,↓reduceIte])
           all_goals first | exact L9 hd2 (j:=j) (by omega) hv0 purse0 purse1 (by omega) last0 hr1 hr2 | (rw [List.length_append]; rfl) | (simp; omega) | (rw [S2 h]; exact ⟨by rw [← Jz (by omega),List.map_set],rfl⟩) | (rw [P9 h]; exact ⟨by rw [← Jz (by omega),List.map_set],rfl⟩) | (omega)
         ·first
          | exact Bool.noConfusion h
          |skip
           try simp only [decide_eq_false_iff_not] at h
           refine Aj ?_
           refine hK36 _ ?_
           refine Ac ?_
           have hpl:=Fa (l:=acc) (by omega)
           simp (disch:=omega) only [hpl,amL,amT,sA,sE,sF,sH,↓reduceIte,reduceCtorEq]
           refine hK8 _ ?_
           refine Ac ?_
           simp (disch:=omega) only [amL,amT,sA,sF,↓reduceIte]
           refine hK5 (acc++[(Fg a paid acc.length v).1],Fg a paid acc.length v) _ ?_ ?_ (B7 ?_ ?_ ?_ ?_)
           all_goals (try simp (disch:=omega) only [Dl,amL,sF,sG,↓reduceIte])
           all_goals first | exact L9 hd2 (j:=j) (by omega) hv0 purse0 purse1 (by omega) last0 hr1 hr2 | (rw [List.length_append]; rfl) | (simp; omega) | (rw [S2 h]; exact ⟨by rw [← Jz (by omega),List.map_set],rfl⟩) | (rw [P9 h]; exact ⟨by rw [← Jz (by omega),List.map_set],rfl⟩) | (omega)
   ·first
    | exact Bool.noConfusion h
    |skip
     try simp only [decide_eq_false_iff_not] at h
     refine Bg ?_
     refine hK3 _ ?_
     refine Aa fun K38 hK38=>?_
     refine Ac ?_
     have hpl:=Fa (l:=acc) (by omega)
     have htk:=Mo (acc:=acc) (by omega)
     have hpc:=Dn (vs:=List.map i64 (pad acc)) (l:=List.map i64 (pad acc)) rfl
     simp (disch:=omega) only [hpl,htk,hpc,amL,amT,sA,sF,↓reduceIte]
     refine hK38 _ ?_
     refine Ae ?_
     try simp (disch:=omega) only [amL,amT,sF,↓reduceIte]
     simp only [htk,Dg,Option.map_some,Nj]
     first | (obtain ⟨g1,g2⟩:=Pf (Rn hd hj2 (by omega) (by assumption)) (by omega) last0 hr1 hr2; rw [g1,g2]; done) | (obtain ⟨g1,g2⟩:=Rr (by omega) hr1 hr2; rw [g1,g2]; done) | (omega)
end AM.Dty
end
/- A valid account's lists of units fit. -/
section
namespace AM.Dty
open Go AM AM.Duty AM.Try Go.Proofs
open Nat renaming reduceLT→sA,reduceAdd→sB,reduceMul→sC,reduceSub→sD,reduceLeDiff→sE,reduceEqDiff→sF,reduceBEq→sG
open Int renaming reduceAdd→sH,reduceSub→sI,reduceMul→sJ,reduceLT→sK,reduceLE→sL,reduceNeg→sM,reduceToNat→sN,reduceEq→sO
set_option maxHeartbeats 4000000
theorem Ez {a:Acc} (h:Aq a=0):a.rates.length≤4∧a.entries.length≤8∧(inB a.last 0 11&&(inB a.interest 0 200&&(inB a.bond 0 100000&&inB a.purse 0 100000)))=true∧Fh a.last (-1) a.rates=true∧a.entries.all (Cb a.last)=true∧Lc a.entries≤1000:=by
 unfold Aq at h
 split at h
 ·omega
 ·split at h
  ·omega
  ·split at h
   ·omega
   ·split at h
    ·omega
    ·split at h
     ·omega
     ·rename_i h1 h2 h3 h4 h5
      refine ⟨by omega,by omega,by simpa using h2,by simpa using h3,by simpa using h4,by omega⟩
theorem V5 {last:Int} {e:Bo} (h:Cb last e=true):-100000≤e.pence∧e.pence≤100000:=by
 unfold Cb at h
 simp only [inB,Bool.and_eq_true,decide_eq_true_eq] at h
 obtain ⟨_,h⟩:=h
 split at h
 ·simp at h; omega
 ·split at h
  ·simp at h; omega
  ·split at h
   ·simp at h; omega
   ·split at h
    ·simp at h; omega
    ·simp at h
end AM.Dty
end
